import PyProof.Rows.All
import Wide.All
import OpenK.AllK
import Wide.FinOn
import HandS.ForMost
import HandS.Exc
import HandS.TryOnly
import HandS.ExcOwn
import HandS.WordsExc
import HandS.ExcIs
import HandS.IsInst
import HandS.Conv
import HandS.SortInts
import HandS.SortRule
import HandS.Deep
import HandS.Steps
import HandS.TupAny
import HandS.More
import KE.RegKIsAll
import PySem.Challenge.RW_shiftroom_k06_many_times
set_option Elab.async false
set_option linter.all false
set_option maxRecDepth 100000
set_option maxHeartbeats 4000000
/-! Shiftroom: the rules that every def's proof here stands on. -/
namespace Shf
open PySem L2

/-- the addresses of the classes -/
structure Gd where
  w : World
  RoomError : Addr := 0
  NoSize : Addr := 0
  NoSeating : Addr := 0
  OtherSize : Addr := 0
  NoSeat : Addr := 0
  NoNumber : Addr := 0
  TooMany : Addr := 0
  Unreached : Addr := 0
  TooWide : Addr := 0
  NotRead : Addr := 0
  Room : Addr := 0
  Book : Addr := 0

/-! ### what an exception may be wished -/
abbrev wE (E : XK) : WX := fun cls d _ H => E cls d H
def tRaiseW (W : WX) (C : Addr) : TS := fun _ σ H => W (.ref C) none σ H
theorem passE0 {X : Cx} (σ : L2.St) : PassesAt (L2.CX X.prog X.w) X σ E0 := fun pins H s e s' I c => passL pins σ H s e s' I c
theorem cx_none {P : Program} {w : World} {H : Hp} {s : Shared} {e : Value} {s' : Shared} (z : L2.CX P w [] H s (fun _ _ _ => False) e s') : False := by
  obtain ⟨_, _, _, _, _, _, _, _, _, _, _, _, z⟩ := z
  exact z

/-! ### a def, a method, a class as a callee -/
structure Cal (P : Program) (w : World) (K : PySem.W.Frag) (mg : Str → Option Value) (base : Heap) (k : Nat) (x : Str) (ps : List Str) (sp : Sp) : Prop where mk' ::
  ex : ∃ f fd, mg x = some (.ref f) ∧ PySem.W.keepIn K (.ref f) = true ∧ Binds K fd ps [] ∧ FnOk P w K mg base (L2.CX P w) k f fd ps sp
theorem Cal.mk {P : Program} {w : World} {K : PySem.W.Frag} {mg : Str → Option Value} {base : Heap} {k : Nat} {x : Str} {ps : List Str} {sp : Sp} (f : Addr) (fd : FuncData) (a : mg x = some (.ref f)) (b : PySem.W.keepIn K (.ref f) = true) (c : Binds K fd ps []) (d : FnOk P w K mg base (L2.CX P w) k f fd ps sp) : Cal P w K mg base k x ps sp := ⟨⟨f, fd, a, b, c, d⟩⟩
structure CalM (P : Program) (w : World) (K : PySem.W.Frag) (mg : Str → Option Value) (base : Heap) (k : Nat) (C : Addr) (m : Str) (ps : List Str) (sp : Sp) : Prop where mk' ::
  ex : ∃ f fd, Meth K C m f ∧ Binds K fd ps [] ∧ FnOk P w K mg base (L2.CX P w) k f fd ps sp
theorem CalM.mk {P : Program} {w : World} {K : PySem.W.Frag} {mg : Str → Option Value} {base : Heap} {k : Nat} {C : Addr} {m : Str} {ps : List Str} {sp : Sp} (f : Addr) (fd : FuncData) (a : Meth K C m f) (c : Binds K fd ps []) (d : FnOk P w K mg base (L2.CX P w) k f fd ps sp) : CalM P w K mg base k C m ps sp := ⟨⟨f, fd, a, c, d⟩⟩
structure CalI (P : Program) (w : World) (K : PySem.W.Frag) (mg : Str → Option Value) (base : Heap) (k : Nat) (C : Addr) (ps : List Str) (sp : Sp) : Prop where mk' ::
  ex : ∃ f fd, Mk K C f ∧ Binds K fd ps [] ∧ FnOk P w K mg base (L2.CX P w) k f fd ps sp
theorem CalI.mk {P : Program} {w : World} {K : PySem.W.Frag} {mg : Str → Option Value} {base : Heap} {k : Nat} {C : Addr} {ps : List Str} {sp : Sp} (f : Addr) (fd : FuncData) (a : Mk K C f) (c : Binds K fd ps []) (d : FnOk P w K mg base (L2.CX P w) k f fd ps sp) : CalI P w K mg base k C ps sp := ⟨⟨f, fd, a, c, d⟩⟩

section
variable {X : Cx} {k : Nat} {x m : Str} {C : Addr} {ps : List Str} {sp : Sp} {E : L2.St → XK} {e o : Expr} {es : List Expr} {t : TA} {ta : TE} {p pos apos : Pos}
theorem pe_cal (c : Cal X.prog X.w X.K X.mg X.base k x ps sp) (hr : Room k X.A) (hg : Gl X x) (hx : ∀ σ, PassesAt (L2.CX X.prog X.w) X σ (E σ)) (ha : PA X (e :: es) t) (hdb : (x == ("__debug__" : Str)) = false := by decide)
    (he : starEach (e :: es) X.env = (false, eval e X.env) :: starEach es X.env := by rfl) (hpl : (backTo pos (starEach es X.env)).any (·.1) = false := by rfl) : PE X (.Call (.Name x p) (e :: es) [] pos) (tCallS sp E t) := by
  obtain ⟨f, fd, a, b, c, d⟩ := c.ex
  exact pe_callS d hr hg a b c hx ha hdb he hpl
theorem pe_cal0 (c : Cal X.prog X.w X.K X.mg X.base k x ps sp) (hr : Room k X.A) (hg : Gl X x) (hx : ∀ σ, PassesAt (L2.CX X.prog X.w) X σ (E σ)) (hdb : (x == ("__debug__" : Str)) = false := by decide) : PE X (.Call (.Name x p) [] [] pos) (tCallS sp E tNil) := by
  obtain ⟨f, fd, a, b, c, d⟩ := c.ex
  refine ⟨fun pins s σ H Q I h => ?_⟩
  refine wpAny_Call_Name_kw (ld_glob I hg a ?_ hdb)
  exact PySem.W.callWith_K0 I.kIn b (run_fnS (us := []) (vs := []) d hr c (hx σ) I .nil h)
def tMethS (C : Addr) (m : Str) (sp : Sp) (E : L2.St → XK) (ta : TE) (t : TA) : TE := fun σ H Q => ta σ H fun x H1 => ∃ a dx fs, x = .ref a ∧ H1 a = some (.ins C dx fs) ∧ fs.lookup m = none ∧
  t σ H1 fun vs H2 => sp (x :: vs) H2 Q (E σ)
theorem pe_calM {pl : Sem Bool} (he : PE X o ta) (c : Cls X.K C) (cm : CalM X.prog X.w X.K X.mg X.base k C m ps sp) (hr : Room k X.A) (hx : ∀ σ, PassesAt (L2.CX X.prog X.w) X σ (E σ)) (ha : PA X (e :: es) t)
    (hst : starEach (e :: es) X.env = (false, eval e X.env) :: starEach es X.env := by rfl) (hpl : (backTo pos (starEach es X.env)).any (·.1) = false := by rfl)
    (ht : eval (.Call (.Attribute o m apos) (e :: es) [] pos) X.env = (do
      let ov ← eval o X.env
      standAt apos.atName
      let (f, first) ← holding [ov] (getMethod ov m pl)
      callWith pos f first (backTo pos (starEach (e :: es) X.env)) (backToKw pos (keywordEach [] X.env))) := by rfl) : PE X (.Call (.Attribute o m apos) (e :: es) [] pos) (tMethS C m sp E ta t) := by
  obtain ⟨f, fd, hm, hb, d⟩ := cm.ex
  refine ⟨fun pins s σ H Q I h => ?_⟩
  refine PySem.W.methodCall_KW (pl := pl) (thn (he.run pins s σ H _ I h) fun u s1 ⟨x, H1, I1, rx, a, dx, fs, ex, ea, l, q⟩ => ?_) ht
  subst ex
  obtain rfl : u = Value.ref a := rx
  refine getmeth_ok I1 ea c hm l ?_
  refine PySem.W.callWith_K (first := [.ref a]) (h₀ := X.base) I.ok.mod.kin hm.kp (thn (ha.run pos pins s1 σ H1 _ I1 q) fun us s2 ⟨vs, H2, I2, r, q2⟩ => ⟨I2.kIn, ?_⟩) hst hpl
  exact run_fnS (us := .ref a :: us) (vs := .ref a :: vs) d hr hb (hx σ) I2 (.cons rfl r) q2
theorem pe_calM0 {pl : Sem Bool} (he : PE X o ta) (c : Cls X.K C) (cm : CalM X.prog X.w X.K X.mg X.base k C m ps sp) (hr : Room k X.A) (hx : ∀ σ, PassesAt (L2.CX X.prog X.w) X σ (E σ))
    (ht : eval (.Call (.Attribute o m apos) [] [] pos) X.env = (do
      let ov ← eval o X.env
      standAt apos.atName
      let (f, first) ← holding [ov] (getMethod ov m pl)
      callWith pos f first (backTo pos (starEach [] X.env)) (backToKw pos (keywordEach [] X.env))) := by rfl) : PE X (.Call (.Attribute o m apos) [] [] pos) (tMethS C m sp E ta tNil) := by
  obtain ⟨f, fd, hm, hb, d⟩ := cm.ex
  refine ⟨fun pins s σ H Q I h => ?_⟩
  refine PySem.W.methodCall_KW (pl := pl) (thn (he.run pins s σ H _ I h) fun u s1 ⟨x, H1, I1, rx, a, dx, fs, ex, ea, l, q⟩ => ?_) ht
  subst ex
  obtain rfl : u = Value.ref a := rx
  refine getmeth_ok I1 ea c hm l ?_
  exact PySem.W.callWith_K0 (first := [.ref a]) I1.kIn hm.kp (run_fnS (us := [.ref a]) (vs := [.ref a]) d hr hb (hx σ) I1 (.cons rfl .nil) q)
end

/-! ### operators by short names -/
def rAddI : R2 := rI0 fun i j => V.int (i + j)
def rSubI : R2 := rI0 fun i j => V.int (i - j)
def rMulI : R2 := rI CMul fun i j => V.int (i * j)
def rDivI : R2 := rI CDivN fun i j => V.int (i.fdiv j)
def rModI : R2 := rI (fun _ j => j ≠ 0) fun i j => V.int (i.fmod j)
def rPowI : R2 := rI CPow fun i j => V.int (i ^ j.toNat)
def rLtI : R2 := rI0 fun i j => V.bl (decide (i < j))
def rLeI : R2 := rI0 fun i j => V.bl (decide (i ≤ j))
def rGtI : R2 := rI0 fun i j => V.bl (decide (j < i))
def rGeI : R2 := rI0 fun i j => V.bl (decide (j ≤ i))
def rAddS : R2 := fun x y H Q => ∃ i j, x = V.str i ∧ y = V.str j ∧ i.length + j.length ≤ sizeLine ∧ Q (.str (i ++ j)) H
def rLenQ (K : PySem.W.Frag) : List V → Hp → VK → Prop := fun xs H Q => ∃ p ys, xs = [.ref p] ∧ (SqL K H p ys ∨ SqT K H p ys) ∧ Q (.int ys.length) H
def rLenDk : List V → Hp → VK → Prop := fun xs H Q => ∃ a kvs, xs = [V.ref a] ∧ H a = some (.dK kvs) ∧ Q (.int kvs.length) H
def rLenSt : List V → Hp → VK → Prop := fun xs H Q => ∃ z, xs = [.str z] ∧ z.length ≤ sizeLine ∧ Q (.int z.length) H
def rListOf (K : PySem.W.Frag) : List V → Hp → VK → Prop := fun xs H Q => ∃ p ys, xs = [.ref p] ∧ (SqL K H p ys ∨ SqT K H p ys) ∧ ∀ l, H l = none → Q (.ref l) (upd H l (.lst ys))
def rTupOf (K : PySem.W.Frag) : List V → Hp → VK → Prop := fun xs H Q => ∃ p ys, xs = [.ref p] ∧ ((SqL K H p ys ∧ ∀ l, H l = none → Q (.ref l) (upd H l (.tup ys))) ∨ (SqT K H p ys ∧ Q (.ref p) H))
def rStrI : List V → Hp → VK → Prop := fun xs H Q => ∃ i, xs = [.int i] ∧ i.natAbs.log2 < 1920 ∧ Q (.str (toString i)) H
def rIntS : List V → Hp → VK → Prop := fun xs H Q => ∃ a n, xs = [.str a] ∧ PySem.intText? a = some n ∧ a.length ≤ 640 ∧ Q (.int n) H
def rMax2 : List V → Hp → VK → Prop := fun xs H Q => ∃ i j, xs = [.int i, .int j] ∧ Q (.int (if j > i then j else i)) H
def rMin2 : List V → Hp → VK → Prop := fun xs H Q => ∃ i j, xs = [.int i, .int j] ∧ Q (.int (if j < i then j else i)) H
def rInsert : V → List V → Hp → VK → Prop := fun x vs H Q => ∃ (l : Addr) (xs : List V) (i : Int) (y : V), x = .ref l ∧ vs = [.int i, y] ∧ H l = some (.lst xs) ∧ xs.length < sizeLine ∧ 0 ≤ i ∧ i < 2 ^ 63 ∧
    Q .non (upd H l (.lst (xs.take i.toNat ++ [y] ++ xs.drop i.toNat)))
def rJoin (K : PySem.W.Frag) : V → List V → Hp → VK → Prop := fun x xs H Q => ∃ a p, ∃ ys : List Str, x = .str a ∧ xs = [.ref p] ∧ (SqL K H p (ys.map V.str) ∨ SqT K H p (ys.map V.str)) ∧
      (ys.map (·.length)).sum + ys.length * a.length ≤ 16777216 ∧ Q (.str (Txt.join a ys)) H
def rSplit : V → List V → Hp → VK → Prop := fun x xs H Q => ∃ a b, x = .str a ∧ xs = [.str b] ∧ (b.length == 0) = false ∧ a.length + 2 ≤ sizeLine ∧ rNewStrs (Txt.split a b) H Q
theorem hu65 {k : Nat} {A : Around} (hr : Room k A) : A.units + 65 < cLine := by have := hr.un; omega

section
variable {X : Cx}
theorem pe_globI {x : Str} {i : Int} {pos : Pos} (hm : ∃ t, X.mg x = some (.int i t)) (hg : Gl X x := by rfl) (hd : (x == ("__debug__" : Str)) = false := by decide) : PE X (.Name x pos) (tC (.int i)) := by
  obtain ⟨t, h⟩ := hm
  exact pe_glob hg h ⟨_, rfl⟩ hd
theorem pe_globS {x : Str} {i : Str} {pos : Pos} (hm : ∃ t, X.mg x = some (.str i t)) (hg : Gl X x := by rfl) (hd : (x == ("__debug__" : Str)) = false := by decide) : PE X (.Name x pos) (tC (.str i)) := by
  obtain ⟨t, h⟩ := hm
  exact pe_glob hg h ⟨_, rfl⟩ hd
end

/-! ### own exceptions -/
structure ExB (K : PySem.W.Frag) (mg : Str → Option Value) (x : Str) (D : Addr) : Prop where
  gC : mg x = some (.ref D)
  ex : PySem.W.excIn K D [.type "ValueError", .type "Exception", .type "BaseException", .type "object"] "ValueError.__new__" = true
  kC : PySem.W.keepIn K (.ref D) = true
  bC : PySem.W.subIn K (.ref D) (.type "BaseException") = some true
  tC : PySem.W.typeIn K (.ref D) = some (.type "type")
/-- isinstance(e, c) in an except suite that holds an exception of class cls -/
def rIsE2 (K : PySem.W.Frag) (cls : Value) (d : Option Addr) (a : Addr) : List V → Hp → VK → Prop := fun xs H Q => ∃ D, cls = .ref D ∧ d = none ∧ ExcC K D ∧ rIsE K D a xs H Q
theorem call_isE2 {X : Cx} {a : Addr} {oe : Obj} {cls : Value} {d : Option Addr} {pn : List (Addr × Obj)} (hz : Zc cls d oe) (hf : ∃ vs, oe.data = .fields vs) : CallR (X.suite a ((a, oe) :: pn)) (.builtin "isinstance") (rIsE2 X.K cls d a) := by
  intro pins s σ H xs us Q I r h
  obtain ⟨D, rfl, rfl, C, h⟩ := h
  exact call_isE C hz hf pins s σ H xs us Q I r h

/-! ### data -/
/-- numbers as values -/
abbrev vI (a : List Int) : List V := a.map V.int
abbrev vN (a : List Nat) : List V := a.map fun (n : Nat) => V.int (n : Int)
/-- a new tuple of numbers is handed back, all else as it was -/
def NewT (H : Hp) (a : List Nat) (Q : VK) : Prop := ∀ (r : Addr) (H' : Hp), Same H H' → H r = none → H' r = some (.tup (vN a)) → Q (.ref r) H'
theorem vN_at {a : List Nat} {i n : Nat} (h : a[i]? = some n) : (vN a)[i]? = some (V.int (n : Int)) := by
  show (a.map _)[i]? = _
  rw [List.getElem?_map, h] <;> rfl
theorem vI_at {a : List Int} {i : Nat} {n : Int} (h : a[i]? = some n) : (vI a)[i]? = some (V.int n) := by
  show (a.map _)[i]? = _
  rw [List.getElem?_map, h] <;> rfl
theorem getD_at {a : List Nat} {i : Nat} (h : i < a.length) : a[i]? = some (a.getD i 0) := by
  rw [List.getD_eq_getElem?_getD, List.getElem?_eq_getElem h] <;> rfl
theorem at_vN {a : List Nat} {z : Int} {i : Nat} (e : z = (i : Int)) (h : i < a.length) : atI (vN a) z = some (V.int ((a.getD i 0 : Nat) : Int)) := at_of e (vN_at (getD_at h))
theorem vN_eq (a : List Nat) : vN a = vI (a.map fun (n : Nat) => (n : Int)) := by
  show a.map _ = (a.map _).map _
  rw [List.map_map] <;> rfl
theorem vN_len (a : List Nat) : (vN a).length = a.length := List.length_map ..
theorem vI_len (a : List Int) : (vI a).length = a.length := List.length_map ..
theorem _root_.L2.Same.up {H H' : Hp} {p : Addr} {o : HO} (s : Same H H') (h : H p = none) : Same H (upd H' p o) := fun b u e => by
  rw [upd_ne (ne_of_none e h)]
  exact s b u e
theorem _root_.L2.Same.new {H H' : Hp} {p : Addr} {o : HO} (s : Same H H') (h : H' p = none) : Same H (upd H' p o) := s.up (s.free h)
theorem _root_.L2.Same.tup {K : PySem.W.Frag} {H H' : Hp} {a : Addr} {xs : List V} (e : Same H H') (h : SqT K H a xs) : SqT K H' a xs := by
  rcases h with (h | ⟨o, h⟩) | h
  · exact .inl (.inl (e _ _ h))
  · exact .inl (.inr ⟨o, e _ _ h⟩)
  · exact .inr h
theorem sqT {K : PySem.W.Frag} {H : Hp} {a : Addr} {xs : List V} (h : H a = some (.tup xs)) : SqT K H a xs := .inl (.inl h)
theorem sqL {K : PySem.W.Frag} {H : Hp} {a : Addr} {xs : List V} (h : H a = some (.lst xs)) : SqL K H a xs := .inl (.inl h)
theorem zl {n : Nat} (h : n ≤ 100000) : n ≤ sizeLine := Nat.le_trans h (by decide)
theorem zlt {n : Nat} (h : n < 100000) : n < sizeLine := Nat.lt_of_lt_of_le h (by decide)
theorem if_t {c : Bool} {A B : Prop} (hc : c = true) (h : A) : if c = true then A else B := by rw [if_pos hc]; exact h
theorem if_f {c : Bool} {A B : Prop} (hc : c = false) (h : B) : if c = true then A else B := by rw [hc, if_neg Bool.false_ne_true]; exact h
theorem if_d {c : Prop} [Decidable c] {A B : Prop} (h1 : c → A) (h2 : ¬ c → B) : if decide c = true then A else B := by
  by_cases h : c
  · exact if_t (decide_eq_true h) (h1 h)
  · exact if_f (decide_eq_false h) (h2 h)
theorem if_b {c : Bool} {A B : Prop} (h1 : c = true → A) (h2 : c = false → B) : if c = true then A else B := by
  cases c with
  | true => exact if_t rfl (h1 rfl)
  | false => exact if_f rfl (h2 rfl)
theorem fmod_pos {a b : Int} (h : 0 < b) : a.fmod b = a % b := Int.fmod_eq_emod_of_nonneg a (Int.le_of_lt h)
theorem fdiv_pos {a b : Int} (h : 0 < b) : a.fdiv b = a / b := Int.fdiv_eq_ediv_of_nonneg a (Int.le_of_lt h)
end Shf

/-! numbers, lists, permutations; steps of the reading by names -/
namespace Shf
open PySem L2
/-! ### steps: one a combinator -/
section
variable {K : PySem.W.Frag} {σ : L2.St} {H : Hp} {Q : VK} {QA : List V → Hp → Prop} {QB : Bool → Hp → Prop} {D : Ends} {te tf : TE} {ta : TA} {tt tu : TT} {t u : TS} {g : TG}
theorem w_seq (h : t { D with nx := u D } σ H) : tSeq t u D σ H := h
theorem w_asg {i : Nat} (h : te σ H fun x H1 => D.nx (σ.set i (some x)) H1) : tAsg te (gName i) D σ H := h
theorem w_asgS {to ti : TE} {r : TSet} (h : te σ H fun x H1 => to σ H1 fun o H1 => ti σ H1 fun i H2 => r o i x H2 fun H3 => D.nx σ H3) : tAsg te (gSub to ti r) D σ H := h
theorem w_drop (h : te σ H fun _ H1 => D.nx σ H1) : tDrop te D σ H := h
theorem w_ret (h : te σ H D.rt) : tRet te D σ H := h
theorem w_next (h : D.nx σ H) : tNext D σ H := h
theorem w_if (h : tt σ H fun b H1 => if b = true then t D σ H1 else u D σ H1) : tIfS tt t u D σ H := h
theorem w_var {i : Nat} {v : V} (e : σ[i]? = some (some v)) (q : Q v H) : tVar i σ H Q := ⟨v, e, q⟩
theorem w_c {v : V} (q : Q v H) : tC v σ H Q := q
theorem w_op {r : R2} (h : te σ H fun x H1 => tf σ H1 fun y H2 => r x y H2 Q) : tOp r te tf σ H Q := h
theorem w_un {r : V → Hp → VK → Prop} (h : te σ H fun x H1 => r x H1 Q) : tUn r te σ H Q := h
theorem w_nil (h : QA [] H) : tNil σ H QA := h
theorem w_cons (h : te σ H fun x H1 => ta σ H1 fun xs H2 => QA (x :: xs) H2) : tCons te ta σ H QA := h
theorem w_cb {r : List V → Hp → VK → Prop} (h : ta σ H fun vs H1 => r vs H1 Q) : tCB r ta σ H Q := h
theorem w_call {sp : Sp} {E : L2.St → XK} (h : ta σ H fun vs H1 => sp vs H1 Q (E σ)) : tCallS sp E ta σ H Q := h
theorem w_test (h : te σ H fun x H' => ∃ k, x = .bl k ∧ QB k H') : tTest te σ H QB := h
theorem w_b (h : te σ H fun x H' => ∃ k, x = .bl k ∧ QB k H') : tB te σ H QB := h
theorem w_bex {b : Bool} {P : Bool → Prop} (h : P b) : ∃ k, V.bl b = .bl k ∧ P k := ⟨b, rfl, h⟩
theorem w_and (h : tt σ H fun c H1 => if c = true then tu σ H1 QB else QB false H1) : tAnd tt tu σ H QB := h
theorem w_or (h : tt σ H fun c H1 => if c = true then QB true H1 else tu σ H1 QB) : tOr tt tu σ H QB := h
theorem w_orP {b c : Bool} (ht : ∀ R : Bool → Hp → Prop, R b H → tt σ H R) (hu : ∀ R : Bool → Hp → Prop, R c H → tu σ H R) (q : QB (b || c) H) : tOr tt tu σ H QB := by
  refine ht _ ?_
  cases b with
  | true => exact q
  | false => exact hu _ q
theorem w_andP {b c : Bool} (ht : ∀ R : Bool → Hp → Prop, R b H → tt σ H R) (hu : ∀ R : Bool → Hp → Prop, R c H → tu σ H R) (q : QB (b && c) H) : tAnd tt tu σ H QB := by
  refine ht _ ?_
  cases b with
  | true => exact hu _ q
  | false => exact q
theorem w_not (h : tt σ H fun c H1 => QB (!c) H1) : tNot tt σ H QB := h
theorem w_andV (h : te σ H fun x H1 => ∃ c, x = .bl c ∧ if c = true then tf σ H1 Q else Q (.bl false) H1) : tAndV te tf σ H Q := h
theorem w_orV (h : te σ H fun x H1 => ∃ c, x = .bl c ∧ if c = true then Q (.bl true) H1 else tf σ H1 Q) : tOrV te tf σ H Q := h
theorem w_notV (h : te σ H fun x H1 => ∃ c, x = .bl c ∧ Q (.bl (!c)) H1) : tNotV te σ H Q := h
theorem w_ife (h : tt σ H fun c H1 => if c = true then te σ H1 Q else tf σ H1 Q) : tIf tt te tf σ H Q := h
theorem w_add {i j : Int} (q : Q (.int (i + j)) H) : rAddI (.int i) (.int j) H Q := ⟨i, j, rfl, rfl, q⟩
theorem w_sub {i j : Int} (q : Q (.int (i - j)) H) : rSubI (.int i) (.int j) H Q := ⟨i, j, rfl, rfl, q⟩
theorem w_neg {i : Int} (q : Q (.int (-i)) H) : rU (fun i => V.int (-i)) (.int i) H Q := ⟨i, rfl, q⟩
theorem w_lt {i j : Int} (q : Q (.bl (decide (i < j))) H) : rLtI (.int i) (.int j) H Q := ⟨i, j, rfl, rfl, q⟩
theorem w_le {i j : Int} (q : Q (.bl (decide (i ≤ j))) H) : rLeI (.int i) (.int j) H Q := ⟨i, j, rfl, rfl, q⟩
theorem w_gt {i j : Int} (q : Q (.bl (decide (j < i))) H) : rGtI (.int i) (.int j) H Q := ⟨i, j, rfl, rfl, q⟩
theorem w_ge {i j : Int} (q : Q (.bl (decide (j ≤ i))) H) : rGeI (.int i) (.int j) H Q := ⟨i, j, rfl, rfl, q⟩
theorem w_tup (h : ta σ H fun xs H1 => xs.length ≤ sizeLine ∧ ∀ p, H1 p = none → Q (.ref p) (upd H1 p (.tup xs))) : tTup ta σ H Q := h
theorem w_lst (h : ta σ H fun xs H1 => xs.length ≤ sizeLine ∧ ∀ p, H1 p = none → Q (.ref p) (upd H1 p (.lst xs))) : tLst ta σ H Q := h
theorem w_lrg {tr : L2.St → Hp → (Int → Int → Hp → Prop) → Prop} (h : tr σ H fun a b H1 => RgOk a b ∧ ∀ q, H1 q = none → Q (.ref q) (upd H1 q (.lst (rgV a b)))) : tLstRg tr σ H Q := h
theorem w_trg {tr : L2.St → Hp → (Int → Int → Hp → Prop) → Prop} (h : tr σ H fun a b H1 => RgOk a b ∧ ∀ q, H1 q = none → Q (.ref q) (upd H1 q (.tup (rgV a b)))) : tTupRg tr σ H Q := h
theorem w_rg1 {QR : Int → Int → Hp → Prop} (h : te σ H fun x H1 => ∃ n, x = .int n ∧ QR 0 n H1) : tRg1 te σ H QR := h
theorem w_iex {i : Int} {P : Int → Prop} (h : P i) : ∃ n, V.int i = .int n ∧ P n := ⟨i, rfl, h⟩
theorem w_yes (q : QB true H) : tYes σ H QB := q
theorem w_bm {T : String} {r : V → List V → Hp → VK → Prop} (h : te σ H fun x H1 => tyV K T x H1 ∧ ta σ H1 fun xs H2 => r x xs H2 Q) : tBM K T r te ta σ H Q := h
theorem w_bm0 {T : String} {r : V → List V → Hp → VK → Prop} (h : te σ H fun x H1 => tyV K T x H1 ∧ r x [] H1 Q) : tBM0 K T r te σ H Q := h
end
/-- ways that meet: what holds where they meet -/
theorem w_join {t : TS} {D : Ends} {σ : L2.St} {H : Hp} (M : L2.St → Hp → Prop) (key : ∀ σ' H', M σ' H' → D.nx σ' H') (h : (∀ σ' H', M σ' H' → D.nx σ' H') → t D σ H) : t D σ H := h key
/-- for .. in range(n), behind n's reading -/
theorem w_for1 {σ : L2.St} {H : Hp} {D : Ends} {i n : Nat} {t : TS} (hn : n ≤ 1000000) (Pv : Nat → L2.St → Hp → Prop) (h0 : Pv 0 σ H)
    (hs : ∀ k σ H, k < n → Pv k σ H → t { D with nx := Pv (k + 1), ct := Pv (k + 1), bk := D.nx } (σ.set i (some (.int (k : Int)))) H) (hd : ∀ σ H, Pv n σ H → D.nx σ H) :
    ∃ j : Int, [V.int (n : Int)] = [.int j] ∧ -(2 ^ 62) ≤ j ∧ j < 2 ^ 62 ∧ ∃ W : Nat → Nat → L2.St → Hp → Prop, (∃ m, W 0 m σ H) ∧ ∀ i' m σ H, W i' m σ H →
      ((Itr 0 j.toNat).stop i' H ∧ D.nx σ H) ∨ ((Itr 0 j.toNat).go i' H ∧ ∃ N : L2.St → Hp → Prop, (∀ σ' H', N σ' H' → ∃ m', m' < m ∧ W (i' + 1) m' σ' H') ∧ ∀ x H', (Itr 0 j.toNat).yld i' H x H' → gName i x σ H' fun σ2 H2 => t { D with nx := N, ct := N, bk := D.nx } σ2 H2) :=
  ⟨_, rfl, by omega, by omega, for_range (n := n) Pv h0 (fun k σ H hk p => by
    show t _ (σ.set i (some (V.int (0 + (k : Int))))) H
    rw [Int.zero_add]
    exact hs k σ H hk p) hd⟩
theorem w_for {σ : L2.St} {H : Hp} {D : Ends} {wi : TI} {g : TG} {tb : TS} (h : wi σ H fun J H1 => ∃ W : Nat → Nat → L2.St → Hp → Prop, (∃ m, W 0 m σ H1) ∧ ∀ i m σ H, W i m σ H →
  (J.stop i H ∧ D.nx σ H) ∨ (J.go i H ∧ ∃ N : L2.St → Hp → Prop, (∀ σ' H', N σ' H' → ∃ m', m' < m ∧ W (i + 1) m' σ' H') ∧ ∀ x H', J.yld i H x H' → g x σ H' fun σ2 H2 => tb { D with nx := N, ct := N, bk := D.nx } σ2 H2)) : tFor wi g tb D σ H := h
theorem w_irng1 {σ : L2.St} {H : Hp} {ta : TA} {R : It → Hp → Prop} (h : ta σ H fun vs H1 => ∃ j : Int, vs = [.int j] ∧ -(2 ^ 62) ≤ j ∧ j < 2 ^ 62 ∧ R (Itr 0 j.toNat) H1) : iRng1 ta σ H R := h
theorem w_irng2 {σ : L2.St} {H : Hp} {ta : TA} {R : It → Hp → Prop} (h : ta σ H fun vs H1 => ∃ i j : Int, vs = [.int i, .int j] ∧ (-(2 ^ 62) ≤ i ∧ i < 2 ^ 62 ∧ -(2 ^ 62) ≤ j ∧ j < 2 ^ 62) ∧ R (Itr i (j - i).toNat) H1) : iRng2 ta σ H R := h
theorem w_ilist {K : PySem.W.Frag} {σ : L2.St} {H : Hp} {te : TE} {R : It → Hp → Prop} (h : te σ H fun x H1 => ∃ a, x = .ref a ∧ (∃ xs, SqL K H1 a xs) ∧ R (Itl K a) H1) : iList K te σ H R := h
theorem w_itup {K : PySem.W.Frag} {σ : L2.St} {H : Hp} {te : TE} {R : It → Hp → Prop} (h : te σ H fun x H1 => ∃ a, x = .ref a ∧ (∃ xs, SqT K H1 a xs) ∧ R (Itt K a) H1) : iTup K te σ H R := h
/-! ### steps -/
section
variable {K : PySem.W.Frag} {H : Hp} {Q : VK} {p : Addr}
theorem ix_LN {a : List Nat} {z : Int} {i : Nat} (h : SqL K H p (vN a)) (hi : i < a.length) (e : z = (i : Int)) (q : Q (.int ((a.getD i 0 : Nat) : Int)) H) : rIxL K (.ref p) (.int z) H Q := ⟨p, _, _, _, rfl, rfl, h, at_vN e hi, q⟩
theorem ix_TN {a : List Nat} {z : Int} {i : Nat} (h : SqT K H p (vN a)) (hi : i < a.length) (e : z = (i : Int)) (q : Q (.int ((a.getD i 0 : Nat) : Int)) H) : rIxT K (.ref p) (.int z) H Q := ⟨p, _, _, _, rfl, rfl, h, at_vN e hi, q⟩
theorem ix_L {xs : List V} {z : Int} {i : Nat} {v : V} (h : SqL K H p xs) (hi : xs[i]? = some v) (e : z = (i : Int)) (q : Q v H) : rIxL K (.ref p) (.int z) H Q := ⟨p, _, _, _, rfl, rfl, h, at_of e hi, q⟩
theorem ix_T {xs : List V} {z : Int} {i : Nat} {v : V} (h : SqT K H p xs) (hi : xs[i]? = some v) (e : z = (i : Int)) (q : Q v H) : rIxT K (.ref p) (.int z) H Q := ⟨p, _, _, _, rfl, rfl, h, at_of e hi, q⟩
theorem len_L {xs : List V} (h : SqL K H p xs) (q : Q (.int (xs.length : Nat)) H) : rLenQ K [.ref p] H Q := ⟨p, xs, rfl, .inl h, q⟩
theorem len_T {xs : List V} (h : SqT K H p xs) (q : Q (.int (xs.length : Nat)) H) : rLenQ K [.ref p] H Q := ⟨p, xs, rfl, .inr h, q⟩
theorem len_LN {a : List Nat} (h : SqL K H p (vN a)) (q : Q (.int (a.length : Nat)) H) : rLenQ K [.ref p] H Q := ⟨p, _, rfl, .inl h, by rw [vN_len]; exact q⟩
theorem len_TN {a : List Nat} (h : SqT K H p (vN a)) (q : Q (.int (a.length : Nat)) H) : rLenQ K [.ref p] H Q := ⟨p, _, rfl, .inr h, by rw [vN_len]; exact q⟩
theorem len_TI {a : List Int} (h : SqT K H p (vI a)) (q : Q (.int (a.length : Nat)) H) : rLenQ K [.ref p] H Q := ⟨p, _, rfl, .inr h, by rw [vI_len]; exact q⟩
theorem len_LI {a : List Int} (h : SqL K H p (vI a)) (q : Q (.int (a.length : Nat)) H) : rLenQ K [.ref p] H Q := ⟨p, _, rfl, .inl h, by rw [vI_len]; exact q⟩
theorem eq_I {i j : Int} (q : Q (.bl (decide (i = j))) H) : rEq (.int i) (.int j) H Q := ⟨rfl, by
  have e : decide (V.int i = V.int j) = decide (i = j) := by
    by_cases h : i = j
    · rw [decide_eq_true h, decide_eq_true (by rw [h])]
    · rw [decide_eq_false h, decide_eq_false (fun z => h (V.int.inj z))]
  rw [e]; exact q⟩
theorem ne_I {i j : Int} (q : Q (.bl (!decide (i = j))) H) : rNe (.int i) (.int j) H Q := ⟨rfl, by
  have e : decide (V.int i = V.int j) = decide (i = j) := by
    by_cases h : i = j
    · rw [decide_eq_true h, decide_eq_true (by rw [h])]
    · rw [decide_eq_false h, decide_eq_false (fun z => h (V.int.inj z))]
  rw [e]; exact q⟩
theorem eq_B {i j : Bool} (q : Q (.bl (i == j)) H) : rEq (.bl i) (.bl j) H Q := ⟨rfl, by
  have e : decide (V.bl i = V.bl j) = (i == j) := by cases i <;> cases j <;> decide
  rw [e]; exact q⟩
theorem ne_B {i j : Bool} (q : Q (.bl (i != j)) H) : rNe (.bl i) (.bl j) H Q := ⟨rfl, by
  have e : (!decide (V.bl i = V.bl j)) = (i != j) := by cases i <;> cases j <;> decide
  rw [e]; exact q⟩
/-- % and // by a positive number below 2 ^ 30 -/
theorem mod_I {i j : Int} (h : 0 < j) (q : Q (.int (i % j)) H) : rModI (.int i) (.int j) H Q := ⟨i, j, rfl, rfl, by omega, by show Q (.int (i.fmod j)) H; rw [fmod_pos h]; exact q⟩
theorem div_I {i j : Int} (h : 0 < j) (h2 : j < 1073741824) (q : Q (.int (i / j)) H) : rDivI (.int i) (.int j) H Q := ⟨i, j, rfl, rfl, ⟨by omega, by omega⟩, by show Q (.int (i.fdiv j)) H; rw [fdiv_pos h]; exact q⟩
theorem mul_I {i j : Int} (h : (-(2 ^ 64) < i ∧ i < 2 ^ 64) ∨ (-(2 ^ 64) < j ∧ j < 2 ^ 64)) (q : Q (.int (i * j)) H) : rMulI (.int i) (.int j) H Q := ⟨i, j, rfl, rfl, h, q⟩
theorem seqIx {i n : Nat} {z : Int} (e : z = (i : Int)) (h : i < n) : seqIndex? z n = some i := by
  subst e
  unfold seqIndex?
  first
    | (rw [if_neg (by omega), if_pos (by omega)]; rfl)
    | (simp; omega)
theorem eraseIdx_map' {α β : Type} (f : α → β) : ∀ (l : List α) (i : Nat), (l.map f).eraseIdx i = (l.eraseIdx i).map f
  | [], _ => rfl
  | _ :: _, 0 => rfl
  | a :: l, i + 1 => by
    show f a :: (l.map f).eraseIdx i = f a :: (l.eraseIdx i).map f
    rw [eraseIdx_map' f l i]
theorem pop_N {a : List Nat} {z : Int} {i : Nat} (h : H p = some (.lst (vN a))) (hi : i < a.length) (hz : a.length ≤ 100000) (e : z = (i : Int)) (q : Q (.int ((a.getD i 0 : Nat) : Int)) (upd H p (.lst (vN (a.eraseIdx i))))) : rPopAt (.ref p) [.int z] H Q := by
  refine ⟨p, _, z, i, _, rfl, rfl, h, by omega, by omega, seqIx e (by rw [vN_len]; exact hi), vN_at (getD_at hi), ?_⟩
  have e2 : (vN a).eraseIdx i = vN (a.eraseIdx i) := by
    show (a.map _).eraseIdx i = (a.eraseIdx i).map _
    exact eraseIdx_map' _ _ _
  rw [e2]
  exact q
theorem app_N {a : List Nat} {n : Nat} (h : H p = some (.lst (vN a))) (hz : a.length < 100000) (q : Q .non (upd H p (.lst (vN (a ++ [n]))))) : rAppend (.ref p) [.int (n : Int)] H Q :=
  ⟨p, _, _, rfl, rfl, h, by rw [vN_len]; exact zlt hz, by
    have e : vN a ++ [V.int (n : Int)] = vN (a ++ [n]) := by
      show a.map _ ++ _ = (a ++ [n]).map _
      rw [List.map_append] <;> rfl
    rw [e]; exact q⟩
theorem app_V {xs : List V} {v : V} (h : H p = some (.lst xs)) (hz : xs.length < 100000) (q : Q .non (upd H p (.lst (xs ++ [v])))) : rAppend (.ref p) [v] H Q := ⟨p, _, _, rfl, rfl, h, zlt hz, q⟩
theorem isL {xs : List V} (h : SqL K H p xs) : tyV K "list" (.ref p) H := .inl ⟨rfl, _, h⟩
theorem tup_L {xs : List V} (h : SqL K H p xs) (q : ∀ l, H l = none → Q (.ref l) (upd H l (.tup xs))) : rTupOf K [.ref p] H Q := ⟨p, xs, rfl, .inl ⟨h, q⟩⟩
end
theorem rgV_N (n : Nat) : rgV 0 (n : Int) = vN (List.range n) := by
  show (List.range ((n : Int) - 0).toNat).map _ = (List.range n).map _
  have e : ((n : Int) - 0).toNat = n := by omega
  rw [e]
  refine List.map_congr_left fun i _ => ?_
  show V.int (0 + (i : Nat)) = V.int (i : Int)
  rw [Int.zero_add]
theorem rgOk_N {n : Nat} (h : n ≤ 100000) : RgOk 0 (n : Int) := .of_le (by omega) (by omega) (by omega) (by omega)

/-! ### permutations of 0 .. n - 1 -/
/-- the numbers 0 .. n - 1 in some order -/
def IsP (n : Nat) (a : List Nat) : Prop := a.Perm (List.range n)
theorem IsP.len {n : Nat} {a : List Nat} (h : IsP n a) : a.length = n := by rw [List.Perm.length_eq h, List.length_range]
theorem IsP.lt {n : Nat} {a : List Nat} (h : IsP n a) {x : Nat} (m : x ∈ a) : x < n := List.mem_range.mp ((List.Perm.mem_iff h).mp m)
theorem IsP.mem {n : Nat} {a : List Nat} (h : IsP n a) {x : Nat} (m : x < n) : x ∈ a := (List.Perm.mem_iff h).mpr (List.mem_range.mpr m)
theorem IsP.nd {n : Nat} {a : List Nat} (h : IsP n a) : a.Nodup := (List.Perm.nodup_iff h).mpr List.nodup_range
theorem IsP.getD_lt {n : Nat} {a : List Nat} (h : IsP n a) {i : Nat} (m : i < n) : a.getD i 0 < n := by
  have e := getD_at (a := a) (i := i) (by rw [h.len]; exact m)
  exact h.lt (List.mem_of_getElem? e)
theorem nd_sub_len {α : Type} [DecidableEq α] : ∀ {a m : List α}, a.Nodup → (∀ x ∈ a, x ∈ m) → a.length ≤ m.length
  | [], _, _, _ => Nat.zero_le _
  | x :: r, m, nd, hs => by
    obtain ⟨hx, nr⟩ := List.nodup_cons.mp nd
    have hm : x ∈ m := hs x List.mem_cons_self
    have ih : r.length ≤ (m.erase x).length := nd_sub_len nr fun y hy => by
      have hne : y ≠ x := fun e => hx (by rw [← e]; exact hy)
      exact (List.mem_erase_of_ne hne).mpr (hs y (List.mem_cons_of_mem _ hy))
    rw [List.length_erase_of_mem hm] at ih
    have : 0 < m.length := List.length_pos_of_mem hm
    show r.length + 1 ≤ _
    omega
/-- a list without twice the same, as long as it is told to be within m's: all of m -/
theorem perm_of_nd_sub : ∀ {a m : List Nat}, a.Nodup → (∀ x ∈ a, x ∈ m) → m.length ≤ a.length → a.Perm m
  | [], m, _, _, hl => by
    have : m = [] := List.length_eq_zero_iff.mp (Nat.le_zero.mp hl)
    rw [this]
  | x :: r, m, nd, hs, hl => by
    obtain ⟨hx, nr⟩ := List.nodup_cons.mp nd
    have hm : x ∈ m := hs x List.mem_cons_self
    have p1 : m.Perm (x :: m.erase x) := List.perm_cons_erase hm
    have ih : r.Perm (m.erase x) := by
      refine perm_of_nd_sub nr (fun y hy => ?_) ?_
      · have hne : y ≠ x := fun e => hx (e ▸ hy)
        exact (List.mem_erase_of_ne hne).mpr (hs y (List.mem_cons_of_mem _ hy))
      · rw [List.length_erase_of_mem hm]
        have : (x :: r).length = r.length + 1 := rfl
        omega
    exact (List.Perm.cons x ih).trans p1.symm
theorem isP_of_nd {n : Nat} {a : List Nat} (nd : a.Nodup) (hl : a.length = n) (hlt : ∀ x ∈ a, x < n) : IsP n a :=
  perm_of_nd_sub nd (fun x hx => List.mem_range.mpr (hlt x hx)) (by rw [List.length_range, hl]; exact Nat.le_refl n)
theorem isP_of_all {n : Nat} {a : List Nat} (hl : a.length = n) (h : ∀ k, k < n → k ∈ a) : IsP n a :=
  (perm_of_nd_sub List.nodup_range (fun x hx => h x (List.mem_range.mp hx)) (by rw [List.length_range, hl]; exact Nat.le_refl n)).symm

/-! ### joined and turned -/
def jn (a b : List Nat) : List Nat := a.map fun k => b.getD k 0
theorem jn_len (a b : List Nat) : (jn a b).length = a.length := List.length_map ..
theorem jn_get {a b : List Nat} {i : Nat} (h : i < a.length) : (jn a b).getD i 0 = b.getD (a.getD i 0) 0 := by
  unfold jn
  rw [List.getD_eq_getElem?_getD, List.getElem?_map, getD_at h] <;> rfl
theorem ext_getD {a b : List Nat} (hl : a.length = b.length) (h : ∀ i, i < a.length → a.getD i 0 = b.getD i 0) : a = b := by
  refine List.ext_getElem? fun i => ?_
  by_cases hi : i < a.length
  · rw [getD_at hi, getD_at (hl ▸ hi), h i hi]
  · rw [List.getElem?_eq_none (by omega), List.getElem?_eq_none (by omega)]
theorem nd_getD {a : List Nat} (nd : a.Nodup) {i j : Nat} (hi : i < a.length) (hj : j < a.length) (e : a.getD i 0 = a.getD j 0) : i = j := nd_ix nd (getD_at hi) (by rw [getD_at hj, e])
theorem nd_of_getD {a : List Nat} (h : ∀ i j, i < a.length → j < a.length → a.getD i 0 = a.getD j 0 → i = j) : a.Nodup := by
  refine List.pairwise_iff_getElem.mpr fun i j hi hj hij e => ?_
  have := h i j hi hj (by rw [List.getD_eq_getElem?_getD, List.getD_eq_getElem?_getD, List.getElem?_eq_getElem hi, List.getElem?_eq_getElem hj, e])
  omega
theorem isP_jn {n : Nat} {a b : List Nat} (ha : IsP n a) (hb : IsP n b) : IsP n (jn a b) := by
  refine isP_of_nd (nd_of_getD fun i j hi hj e => ?_) (by rw [jn_len, ha.len]) fun x hx => ?_
  · rw [jn_len] at hi hj
    rw [jn_get hi, jn_get hj] at e
    have hi' : a.getD i 0 < b.length := by rw [hb.len]; exact ha.getD_lt (by rw [← ha.len]; exact hi)
    have hj' : a.getD j 0 < b.length := by rw [hb.len]; exact ha.getD_lt (by rw [← ha.len]; exact hj)
    exact nd_getD ha.nd hi hj (nd_getD hb.nd hi' hj' e)
  · obtain ⟨k, hk, rfl⟩ := List.mem_map.mp hx
    exact hb.getD_lt (ha.lt hk)
theorem isP_id (n : Nat) : IsP n (List.range n) := List.Perm.refl _
/-- the way back as the program makes it -/
def trnSt (a : List Nat) (k : Nat) : List Nat := (List.range k).foldl (fun row i => row.set (a.getD i 0) i) (List.replicate a.length 0)
def trn (a : List Nat) : List Nat := trnSt a a.length
theorem trnSt_succ (a : List Nat) (k : Nat) : trnSt a (k + 1) = (trnSt a k).set (a.getD k 0) k := by
  unfold trnSt
  rw [List.range_succ, List.foldl_append] <;> rfl
theorem trnSt_len (a : List Nat) : ∀ k, (trnSt a k).length = a.length
  | 0 => List.length_replicate
  | k + 1 => by rw [trnSt_succ, List.length_set, trnSt_len a k]
theorem trnSt_get {n : Nat} {a : List Nat} (h : IsP n a) : ∀ k, k ≤ n → ∀ i, i < k → (trnSt a k).getD (a.getD i 0) 0 = i
  | 0, _, i, hi => absurd hi (Nat.not_lt_zero i)
  | k + 1, hk, i, hi => by
    have hka : k < a.length := by rw [h.len]; omega
    rw [trnSt_succ, List.getD_eq_getElem?_getD]
    by_cases e : i = k
    · subst e
      rw [List.getElem?_set_self (by rw [trnSt_len, h.len]; exact h.getD_lt (by omega))] <;> rfl
    · have hne : a.getD k 0 ≠ a.getD i 0 := fun z => e (nd_getD h.nd (by omega) hka z.symm)
      rw [List.getElem?_set_ne hne, ← List.getD_eq_getElem?_getD]
      exact trnSt_get h k (by omega) i (by omega)
theorem trn_len (a : List Nat) : (trn a).length = a.length := trnSt_len a _
theorem trn_get {n : Nat} {a : List Nat} (h : IsP n a) {i : Nat} (hi : i < n) : (trn a).getD (a.getD i 0) 0 = i := trnSt_get h a.length (by rw [h.len]; exact Nat.le_refl n) i (by rw [h.len]; exact hi)
theorem isP_get_of {n : Nat} {a : List Nat} (h : IsP n a) {x : Nat} (hx : x < n) : ∃ i, i < n ∧ a.getD i 0 = x := by
  obtain ⟨i, hi, e⟩ := List.getElem_of_mem (h.mem hx)
  refine ⟨i, by rw [← h.len]; exact hi, ?_⟩
  rw [List.getD_eq_getElem?_getD, List.getElem?_eq_getElem hi, e] <;> rfl
theorem isP_trn {n : Nat} {a : List Nat} (h : IsP n a) : IsP n (trn a) := by
  refine isP_of_all (by rw [trn_len, h.len]) fun k hk => ?_
  have e := trn_get h hk
  have hl : a.getD k 0 < (trn a).length := by rw [trn_len, h.len]; exact h.getD_lt hk
  have m := List.mem_of_getElem? (getD_at hl)
  rw [e] at m
  exact m
theorem trn_get' {n : Nat} {a : List Nat} (h : IsP n a) {x : Nat} (hx : x < n) : a.getD ((trn a).getD x 0) 0 = x := by
  obtain ⟨i, hi, e⟩ := isP_get_of h hx
  rw [← e, trn_get h hi]
theorem jn_trn {n : Nat} {a : List Nat} (h : IsP n a) : jn a (trn a) = List.range n := by
  refine ext_getD (by rw [jn_len, h.len, List.length_range]) fun i hi => ?_
  rw [jn_len] at hi
  have hi' : i < n := by rw [← h.len]; exact hi
  rw [jn_get hi, trn_get h hi', List.getD_eq_getElem?_getD, List.getElem?_range hi'] <;> rfl
theorem trn_jn {n : Nat} {a : List Nat} (h : IsP n a) : jn (trn a) a = List.range n := by
  refine ext_getD (by rw [jn_len, trn_len, h.len, List.length_range]) fun i hi => ?_
  rw [jn_len, trn_len] at hi
  have hi' : i < n := by rw [← h.len]; exact hi
  rw [jn_get (by rw [trn_len]; exact hi), trn_get' h hi', List.getD_eq_getElem?_getD, List.getElem?_range hi'] <;> rfl
theorem range_getD {n i : Nat} (h : i < n) : (List.range n).getD i 0 = i := by rw [List.getD_eq_getElem?_getD, List.getElem?_range h] <;> rfl
theorem jn_id {n : Nat} {a : List Nat} (h : ∀ x ∈ a, x < n) : jn a (List.range n) = a := by
  unfold jn
  conv => rhs; rw [← List.map_id a]
  exact List.map_congr_left fun x hx => range_getD (h x hx)
theorem id_jn (a : List Nat) : jn (List.range a.length) a = a := by
  refine ext_getD (by rw [jn_len, List.length_range]) fun i hi => ?_
  rw [jn_len, List.length_range] at hi
  rw [jn_get (by rw [List.length_range]; exact hi), range_getD hi]
theorem jn_assoc {a b c : List Nat} (h : ∀ x ∈ a, x < b.length) : jn (jn a b) c = jn a (jn b c) := by
  unfold jn
  rw [List.map_map]
  refine List.map_congr_left fun x hx => ?_
  show c.getD (b.getD x 0) 0 = (jn b c).getD x 0
  rw [jn_get (h x hx)]
/-- a seating -/
def SeatB (a : List Int) : Bool := decide (1 ≤ a.length) && decide (a.length ≤ 16) && (List.range a.length).all fun k => decide ((k : Int) ∈ a)
theorem seatB_N {n : Nat} {a : List Nat} (h : IsP n a) (h1 : 1 ≤ n) (h2 : n ≤ 16) : SeatB (a.map fun (x : Nat) => (x : Int)) = true := by
  unfold SeatB
  rw [List.length_map, h.len, decide_eq_true h1, decide_eq_true h2]
  refine List.all_eq_true.mpr fun k hk => decide_eq_true ?_
  exact List.mem_map.mpr ⟨k, h.mem (List.mem_range.mp hk), rfl⟩
theorem seatB_is {a : List Int} (h : SeatB a = true) : ∃ b : List Nat, IsP a.length b ∧ a = b.map (fun (x : Nat) => (x : Int)) ∧ 1 ≤ a.length ∧ a.length ≤ 16 := by
  unfold SeatB at h
  rw [Bool.and_eq_true, Bool.and_eq_true] at h
  obtain ⟨⟨h1, h2⟩, h3⟩ := h
  have h3 := List.all_eq_true.mp h3
  have hin : ∀ k, k < a.length → k ∈ a.map Int.toNat := fun k hk => by
    have q := of_decide_eq_true (h3 k (List.mem_range.mpr hk))
    exact List.mem_map.mpr ⟨_, q, by omega⟩
  have P : IsP a.length (a.map Int.toNat) := isP_of_all (List.length_map ..) hin
  have nn : ∀ x ∈ a, 0 ≤ x := by
    -- were one below nought, its place would be free for none of 0 .. n - 1
    have hall : ∀ k, k < a.length → (k : Int) ∈ a := fun k hk => of_decide_eq_true (h3 k (List.mem_range.mpr hk))
    have : (List.range a.length).map (fun (x : Nat) => (x : Int)) |>.Nodup := by
      refine List.pairwise_map.mpr (List.Pairwise.imp (fun hne e => hne (Int.ofNat.inj e)) (List.nodup_range (n := a.length)))
    intro x hx
    refine Decidable.byContradiction fun hneg => ?_
    have hsub : ∀ y ∈ (List.range a.length).map (fun (x : Nat) => (x : Int)), y ∈ a.erase x := fun y hy => by
      obtain ⟨k, hk, e⟩ := List.mem_map.mp hy
      have hne : y ≠ x := fun z => by
        have : (k : Int) = x := e.trans z
        omega
      refine (List.mem_erase_of_ne hne).mpr ?_
      rw [← e]
      exact hall k (List.mem_range.mp hk)
    have hle := nd_sub_len this hsub
    rw [List.length_map, List.length_range, List.length_erase_of_mem hx] at hle
    have : 0 < a.length := List.length_pos_of_mem hx
    omega
  refine ⟨a.map Int.toNat, P, ?_, of_decide_eq_true h1, of_decide_eq_true h2⟩
  rw [List.map_map]
  conv => lhs; rw [← List.map_id a]
  exact List.map_congr_left fun x hx => by
    show x = ((x.toNat : Nat) : Int)
    have := nn x hx
    omega
/-! ### data as a whole -/
section
variable {K : PySem.W.Frag} {H : Hp} {Q : VK} {p q : Addr}
theorem dpAll_of : ∀ {xs : List V} {ds : List PyData}, (∀ (i : Nat) (x : V) (d : PyData), xs[i]? = some x → ds[i]? = some d → Dp K H x d) → xs.length = ds.length → DpAll K H xs ds
  | [], [], _, _ => .nil
  | [], _ :: _, _, h => by simp at h
  | _ :: _, [], _, h => by simp at h
  | x :: xs, d :: ds, h, hl => .cons (h 0 x d rfl rfl) (dpAll_of (fun i y e h1 h2 => h (i + 1) y e (by simpa using h1) (by simpa using h2)) (by simpa using hl))
theorem dpAll_I : ∀ (a : List Int), DpAll K H (vI a) (a.map PyData.int)
  | [] => .nil
  | x :: r => .cons (.int x) (dpAll_I r)
def dT (a : List Int) : PyData := .tuple (a.map PyData.int)
def dL (a : List Int) : PyData := .list (a.map PyData.int)
theorem dp_T {a : List Int} (h : SqT K H p (vI a)) : Dp K H (.ref p) (dT a) := .tup h (dpAll_I a)
theorem dp_L {a : List Int} (h : SqL K H p (vI a)) : Dp K H (.ref p) (dL a) := .lst h (dpAll_I a)
theorem eqvAll_map {α : Type} [DecidableEq α] {f : α → PyData} (h : ∀ x y, PyData.eqv (f x) (f y) = decide (x = y)) : ∀ (a b : List α), PyData.eqvAll (a.map f) (b.map f) = decide (a = b)
  | [], [] => by rw [decide_eq_true rfl] <;> simp [PyData.eqvAll]
  | [], _ :: _ => by rw [decide_eq_false (fun z => by cases z)] <;> simp [PyData.eqvAll]
  | _ :: _, [] => by rw [decide_eq_false (fun z => by cases z)] <;> simp [PyData.eqvAll]
  | x :: a, y :: b => by
    show PyData.eqvAll (f x :: a.map f) (f y :: b.map f) = _
    unfold PyData.eqvAll
    rw [h, eqvAll_map h a b]
    by_cases e : x = y
    · subst e
      by_cases e2 : a = b
      · subst e2; simp
      · rw [decide_eq_false e2, Bool.and_false, decide_eq_false (fun z => e2 (List.cons.inj z).2)]
    · rw [decide_eq_false e, Bool.false_and, decide_eq_false (fun z => e (List.cons.inj z).1)]
theorem eqv_int (x y : Int) : PyData.eqv (.int x) (.int y) = decide (x = y) := by
  unfold PyData.eqv
  by_cases e : x = y
  · subst e; simp
  · rw [decide_eq_false e]; simpa using e
theorem eqv_T (a b : List Int) : PyData.eqv (dT a) (dT b) = decide (a = b) := by
  unfold dT PyData.eqv
  exact eqvAll_map eqv_int a b
theorem eqv_L (a b : List Int) : PyData.eqv (dL a) (dL b) = decide (a = b) := by
  unfold dL PyData.eqv
  exact eqvAll_map eqv_int a b
theorem canAll_map {α : Type} {f : α → PyData} (h : ∀ x, (f x).canLay0 = true) : ∀ (a : List α), PyData.canLayAll0 (a.map f) = true
  | [] => by simp [PyData.canLayAll0]
  | x :: a => by
    show PyData.canLayAll0 (f x :: a.map f) = true
    unfold PyData.canLayAll0
    rw [h x, canAll_map h a] <;> rfl
theorem depthAll_map {α : Type} {f : α → PyData} {n : Nat} (h : ∀ x, (f x).depth ≤ n) : ∀ (a : List α), PyData.depthAll (a.map f) ≤ n
  | [] => by simp [PyData.depthAll]
  | x :: a => by
    show PyData.depthAll (f x :: a.map f) ≤ n
    have h1 := h x
    have h2 := depthAll_map h a
    unfold PyData.depthAll
    omega
theorem can_T (a : List Int) : (dT a).canLay0 = true := by
  unfold dT PyData.canLay0
  exact canAll_map (fun x => by simp [PyData.canLay0]) a
theorem can_L (a : List Int) : (dL a).canLay0 = true := by
  unfold dL PyData.canLay0
  exact canAll_map (fun x => by simp [PyData.canLay0]) a
theorem dep_T (a : List Int) : (dT a).depth ≤ 1 := by
  unfold dT PyData.depth
  have := depthAll_map (f := PyData.int) (n := 0) (fun x => by simp [PyData.depth]) a
  omega
theorem dep_L (a : List Int) : (dL a).depth ≤ 1 := by
  unfold dL PyData.depth
  have := depthAll_map (f := PyData.int) (n := 0) (fun x => by simp [PyData.depth]) a
  omega
theorem shp {d : PyData} (h : d.canLay0 = true) (h2 : d.depth ≤ 64) : SeqAt.shaped d = true := by
  unfold SeqAt.shaped
  rw [h, decide_eq_true h2] <;> rfl
theorem shp_T (a : List Int) : SeqAt.shaped (dT a) = true := shp (can_T a) (by have := dep_T a; omega)
theorem shp_L (a : List Int) : SeqAt.shaped (dL a) = true := shp (can_L a) (by have := dep_L a; omega)
theorem eq_TI {a b : List Int} (ha : SqT K H p (vI a)) (hb : SqT K H q (vI b)) (k : Q (.bl (decide (a = b))) H) : rEqD K (.ref p) (.ref q) H Q := ⟨dT a, dT b, dp_T ha, dp_T hb, shp_T a, shp_T b, by rw [eqv_T]; exact k⟩
theorem ne_TI {a b : List Int} (ha : SqT K H p (vI a)) (hb : SqT K H q (vI b)) (k : Q (.bl (!decide (a = b))) H) : rNeD K (.ref p) (.ref q) H Q := ⟨dT a, dT b, dp_T ha, dp_T hb, shp_T a, shp_T b, by rw [eqv_T]; exact k⟩
theorem vInj {a b : List Nat} : (a.map (fun (x : Nat) => (x : Int)) = b.map (fun (x : Nat) => (x : Int))) ↔ a = b := by
  constructor
  · intro h
    have e := congrArg (List.map Int.toNat) h
    rw [List.map_map, List.map_map] at e
    have i : (Int.toNat ∘ fun (x : Nat) => (x : Int)) = id := by funext x; rfl
    rw [i, List.map_id, List.map_id] at e
    exact e
  · intro h; rw [h]
theorem dec_iff {p q : Prop} [Decidable p] [Decidable q] (h : p ↔ q) : decide p = decide q := by
  by_cases hp : p
  · rw [decide_eq_true hp, decide_eq_true (h.mp hp)]
  · rw [decide_eq_false hp, decide_eq_false (fun z => hp (h.mpr z))]
theorem eq_TN {a b : List Nat} (ha : SqT K H p (vN a)) (hb : SqT K H q (vN b)) (k : Q (.bl (decide (a = b))) H) : rEqD K (.ref p) (.ref q) H Q := by
  rw [vN_eq] at ha hb
  refine eq_TI ha hb ?_
  rw [dec_iff vInj]
  exact k
theorem ne_TN {a b : List Nat} (ha : SqT K H p (vN a)) (hb : SqT K H q (vN b)) (k : Q (.bl (!decide (a = b))) H) : rNeD K (.ref p) (.ref q) H Q := by
  rw [vN_eq] at ha hb
  refine ne_TI ha hb ?_
  rw [dec_iff vInj]
  exact k
theorem set_N {a : List Nat} {z : Int} {i n : Nat} {R : Hp → Prop} (h : H p = some (.lst (vN a))) (hi : i < a.length) (e : z = (i : Int)) (k : R (upd H p (.lst (vN (a.set i n))))) : rSetL (.ref p) (.int z) (.int (n : Int)) H R := by
  refine ⟨p, _, z, i, rfl, rfl, h, ?_, ?_⟩
  · unfold ixN
    rw [vN_len, if_pos (by omega), if_pos (by omega), e] <;> rfl
  · have e2 : (vN a).set i (V.int (n : Int)) = vN (a.set i n) := by
      show (a.map _).set i _ = (a.set i n).map _
      rw [List.map_set]
    rw [e2]
    exact k
theorem rep_0 {n : Nat} (hn : n ≤ 100000) (h : H p = some (.lst [V.int 0])) (k : ∀ l, H l = none → Q (.ref l) (upd H l (.lst (vN (List.replicate n 0))))) : rRep (.ref p) (.int (n : Int)) H Q := by
  refine ⟨p, _, _, rfl, rfl, h, by omega, by omega, zl (by show 1 * ((n : Int)).toNat ≤ 100000; omega), fun l hl => ?_⟩
  have e : (List.replicate ((n : Int)).toNat [V.int 0]).flatten = vN (List.replicate n 0) := by
    show (List.replicate n [V.int 0]).flatten = (List.replicate n 0).map _
    rw [List.map_replicate]
    clear k hl
    induction n with
    | zero => rfl
    | succ m ih => rw [List.replicate_succ, List.flatten_cons, ih (by omega), List.replicate_succ] <;> rfl
  rw [e]
  exact k l hl
end
theorem if_nd {c : Prop} [Decidable c] {A B : Prop} (h1 : ¬ c → A) (h2 : c → B) : if (!decide c) = true then A else B := by
  by_cases h : c
  · rw [decide_eq_true h]; exact if_f rfl (h2 h)
  · rw [decide_eq_false h]; exact if_t rfl (h1 h)
theorem if_nb {c : Bool} {A B : Prop} (h1 : c = false → A) (h2 : c = true → B) : if (!c) = true then A else B := by
  cases c with
  | true => exact if_f rfl (h2 rfl)
  | false => exact if_t rfl (h1 rfl)
theorem take_more {α : Type} {l : List α} {i : Nat} {x : α} (h : l[i]? = some x) : l.take (i + 1) = l.take i ++ [x] := by
  rw [List.take_add_one, h] <;> rfl
theorem vN_get {a : List Nat} {i : Nat} {x : V} (h : (vN a)[i]? = some x) : ∃ n, a[i]? = some n ∧ x = V.int (n : Int) := by
  have h : (a.map fun (n : Nat) => V.int (n : Int))[i]? = some x := h
  rw [List.getElem?_map] at h
  cases e : a[i]? with
  | none => rw [e] at h; cases h
  | some n => rw [e] at h; exact ⟨n, rfl, (Option.some.inj h).symm⟩
theorem vN_app (a : List Nat) (n : Nat) : vN a ++ [V.int (n : Int)] = vN (a ++ [n]) := by
  show a.map _ ++ _ = (a ++ [n]).map _
  rw [List.map_append] <;> rfl
theorem rangeS {α : Type} (f : Nat → α) (j : Nat) : (List.range (j + 1)).map f = (List.range j).map f ++ [f j] := by rw [List.range_succ, List.map_append] <;> rfl
end Shf

local macro_rules | `(tactic| walk_at "ex") => `(tactic| repeat (with_reducible first
  | refine Shf.w_op ?_ | refine Shf.w_c ?_
  | (show L2.tVar _ _ _ _; with_unfolding_all refine Shf.w_var rfl ?_)
  | refine Shf.w_nil ?_ | refine Shf.w_cons ?_ | refine Shf.w_cb ?_ | refine Shf.w_call ?_ | refine Shf.w_test ?_ | refine Shf.w_b ?_ | refine Shf.w_bex ?_
  | refine Shf.w_and ?_ | refine Shf.w_or ?_ | refine Shf.w_not ?_ | refine Shf.w_andV ?_ | refine Shf.w_orV ?_ | refine Shf.w_notV ?_ | refine Shf.w_ife ?_
  | refine Shf.w_add ?_ | refine Shf.w_sub ?_ | refine Shf.w_neg ?_ | refine Shf.w_lt ?_ | refine Shf.w_le ?_ | refine Shf.w_gt ?_ | refine Shf.w_ge ?_ | refine Shf.eq_I ?_ | refine Shf.ne_I ?_ | refine Shf.eq_B ?_ | refine Shf.ne_B ?_
  | refine Shf.w_tup ?_ | refine Shf.w_lst ?_ | refine Shf.w_lrg ?_ | refine Shf.w_trg ?_ | refine Shf.w_rg1 ?_ | refine Shf.w_iex ?_ | refine Shf.w_bm ?_ | refine Shf.w_bm0 ?_ | refine Shf.w_un ?_ 
  | refine Shf.w_yes ?_ | refine L2.iteT ?_ | refine L2.iteF ?_ | refine Shf.w_irng1 ?_ | refine Shf.w_irng2 ?_ | refine Shf.w_ilist ?_ | refine Shf.w_itup ?_))
local macro_rules | `(tactic| walk_at "st") => `(tactic| with_reducible first | refine Shf.w_asg ?_ | refine Shf.w_drop ?_ | refine Shf.w_ret ?_ | refine Shf.w_next ?_ | refine Shf.w_asgS ?_ | refine Shf.w_for ?_ | refine Shf.w_if ?_)
local macro_rules | `(tactic| walk_at "sq") => `(tactic| with_reducible refine Shf.w_seq ?_)
local macro_rules | `(tactic| walk_at "re") => `(tactic| repeat (with_reducible first
  | refine Shf.w_asg ?_ | refine Shf.w_drop ?_ | refine Shf.w_ret ?_ | refine Shf.w_next ?_ | refine Shf.w_op ?_ | refine Shf.w_c ?_
  | (show L2.tVar _ _ _ _; with_unfolding_all refine Shf.w_var rfl ?_)
  | refine Shf.w_nil ?_ | refine Shf.w_cons ?_ | refine Shf.w_cb ?_ | refine Shf.w_call ?_ | refine Shf.w_test ?_ | refine Shf.w_b ?_ | refine Shf.w_bex ?_
  | refine Shf.w_and ?_ | refine Shf.w_or ?_ | refine Shf.w_not ?_ | refine Shf.w_andV ?_ | refine Shf.w_orV ?_ | refine Shf.w_notV ?_ | refine Shf.w_ife ?_
  | refine Shf.w_add ?_ | refine Shf.w_sub ?_ | refine Shf.w_neg ?_ | refine Shf.w_lt ?_ | refine Shf.w_le ?_ | refine Shf.w_gt ?_ | refine Shf.w_ge ?_ | refine Shf.eq_I ?_ | refine Shf.ne_I ?_ | refine Shf.eq_B ?_ | refine Shf.ne_B ?_
  | refine Shf.w_tup ?_ | refine Shf.w_lst ?_ | refine Shf.w_lrg ?_ | refine Shf.w_trg ?_ | refine Shf.w_rg1 ?_ | refine Shf.w_iex ?_ | refine Shf.w_bm ?_ | refine Shf.w_bm0 ?_ | refine Shf.w_un ?_ | refine Shf.w_asgS ?_
  | refine Shf.w_yes ?_ | refine L2.iteT ?_ | refine L2.iteF ?_ | refine Shf.w_irng1 ?_ | refine Shf.w_irng2 ?_ | refine Shf.w_ilist ?_ | refine Shf.w_itup ?_))
local macro_rules | `(tactic| walk_at "rd") => `(tactic| repeat (with_reducible first
  | refine Shf.w_seq ?_ | refine Shf.w_if ?_ | refine Shf.w_asg ?_ | refine Shf.w_drop ?_ | refine Shf.w_ret ?_ | refine Shf.w_next ?_ | refine Shf.w_op ?_ | refine Shf.w_c ?_
  | (show L2.tVar _ _ _ _; with_unfolding_all refine Shf.w_var rfl ?_)
  | refine Shf.w_nil ?_ | refine Shf.w_cons ?_ | refine Shf.w_cb ?_ | refine Shf.w_call ?_ | refine Shf.w_test ?_ | refine Shf.w_b ?_ | refine Shf.w_bex ?_
  | refine Shf.w_and ?_ | refine Shf.w_or ?_ | refine Shf.w_not ?_ | refine Shf.w_andV ?_ | refine Shf.w_orV ?_ | refine Shf.w_notV ?_ | refine Shf.w_ife ?_
  | refine Shf.w_add ?_ | refine Shf.w_sub ?_ | refine Shf.w_neg ?_ | refine Shf.w_lt ?_ | refine Shf.w_le ?_ | refine Shf.w_gt ?_ | refine Shf.w_ge ?_ | refine Shf.eq_I ?_ | refine Shf.ne_I ?_ | refine Shf.eq_B ?_ | refine Shf.ne_B ?_
  | refine Shf.w_tup ?_ | refine Shf.w_lst ?_ | refine Shf.w_lrg ?_ | refine Shf.w_trg ?_ | refine Shf.w_rg1 ?_ | refine Shf.w_iex ?_ | refine Shf.w_bm ?_ | refine Shf.w_bm0 ?_ | refine Shf.w_un ?_ | refine Shf.w_asgS ?_
  | refine Shf.w_yes ?_ | refine L2.iteT ?_ | refine L2.iteF ?_ | refine Shf.w_for ?_ | refine Shf.w_irng1 ?_ | refine Shf.w_irng2 ?_ | refine Shf.w_ilist ?_ | refine Shf.w_itup ?_))
/-! the seats: is_seating .. back; the laws' common helpers -/
namespace Shf
open PySem L2
def sp_law (K : PySem.W.Frag) : Sp := fun vs H Q _ => ∃ (a : Addr) (ns : List Int), vs = [.ref a] ∧ SqL K H a (ns.map V.int) ∧ ns.length ≤ 63 ∧ ∀ H', Q (.bl true) H'
theorem len_law (K : PySem.W.Frag) (g : Gd) (vs : List V) (H : Hp) (Q : VK) (E : XK) (h : sp_law K vs H Q E) : vs.length = 1 := by obtain ⟨_, _, rfl, _⟩ := h; rfl
/-- the reading of a def's body -/
abbrev Rd1 (t : TS) (N : List Str) (vs : List V) (H : Hp) (Q : VK) : Prop := t { nx := fun _ H' => Q .non H', rt := Q } (start N vs) H
/-- membership of an int in a list of ints -/
theorem inV_I (x : Int) (a : List Int) : inV (V.int x) (vI a) = decide (x ∈ a) := by
  unfold inV
  rw [List.any_map]
  induction a with
  | nil => rfl
  | cons y r ih =>
    rw [List.any_cons, ih]
    show (eqV (V.int y) (V.int x) || _) = _
    by_cases e : x = y
    · subst e
      have : eqV (V.int x) (V.int x) = true := by simp [eqV]
      rw [this, decide_eq_true (List.mem_cons_self)] <;> rfl
    · have : eqV (V.int y) (V.int x) = false := by simp [eqV]; exact fun z => e z.symm
      rw [this, Bool.false_or]
      by_cases m : x ∈ r
      · rw [decide_eq_true m, decide_eq_true (List.mem_cons_of_mem _ m)]
      · rw [decide_eq_false m, decide_eq_false (fun z => by rcases List.mem_cons.mp z with z | z; exact e z; exact m z)]
theorem flat_I (a : List Int) : (vI a).all flatV = true := by
  rw [List.all_map]
  exact List.all_eq_true.mpr fun _ _ => rfl
section
variable {K : PySem.W.Frag} {H : Hp} {Q : VK} {p : Addr}
theorem in_TI {a : List Int} {x : Int} (h : SqT K H p (vI a)) (k : Q (.bl (decide (x ∈ a))) H) : rIn K false (.int x) (.ref p) H Q := ⟨p, _, rfl, .inr h, rfl, flat_I a, by rw [inV_I]; exact k⟩
theorem notin_TI {a : List Int} {x : Int} (h : SqT K H p (vI a)) (k : Q (.bl (!decide (x ∈ a))) H) : rIn K true (.int x) (.ref p) H Q := ⟨p, _, rfl, .inr h, rfl, flat_I a, by rw [inV_I]; exact k⟩
theorem in_LI {a : List Int} {x : Int} (h : SqL K H p (vI a)) (k : Q (.bl (decide (x ∈ a))) H) : rIn K false (.int x) (.ref p) H Q := ⟨p, _, rfl, .inl h, rfl, flat_I a, by rw [inV_I]; exact k⟩
theorem notin_LI {a : List Int} {x : Int} (h : SqL K H p (vI a)) (k : Q (.bl (!decide (x ∈ a))) H) : rIn K true (.int x) (.ref p) H Q := ⟨p, _, rfl, .inl h, rfl, flat_I a, by rw [inV_I]; exact k⟩
end
theorem set_I {H : Hp} {p : Addr} {a : List Int} {z n : Int} {i : Nat} {R : Hp → Prop} (h : H p = some (.lst (vI a))) (hi : i < a.length) (e : z = (i : Int)) (k : R (upd H p (.lst (vI (a.set i n))))) : rSetL (.ref p) (.int z) (.int n) H R := by
  refine ⟨p, _, z, i, rfl, rfl, h, ?_, ?_⟩
  · unfold ixN
    rw [vI_len, if_pos (by omega), if_pos (by omega), e] <;> rfl
  · have e2 : (vI a).set i (V.int n) = vI (a.set i n) := by
      show (a.map _).set i _ = (a.set i n).map _
      rw [List.map_set]
    rw [e2]
    exact k
theorem pow_10 {H : Hp} {Q : VK} {n : Nat} (hn : n ≤ 1000) (k : Q (.int (10 ^ n)) H) : rPowI (.int 10) (.int (n : Int)) H Q := ⟨10, n, rfl, rfl, ⟨by omega, by omega, by decide⟩, k⟩
theorem is_bl {K : PySem.W.Frag} {H : Hp} {Q : VK} {b : Bool} (k : Q (.bl true) H) : rIsi K [.bl b, .ty "bool"] H Q := ⟨_, _, .type "bool", _, true, rfl, .ty "bool", .base (.bl b), kit_ty (by decide +kernel), k⟩
theorem is_lst {K : PySem.W.Frag} {H : Hp} {Q : VK} {p : Addr} {xs : List V} (h : H p = some (.lst xs)) (k : Q (.bl true) H) : rIsi K [.ref p, .ty "list"] H Q :=
  ⟨_, _, .type "list", _, true, rfl, .ty "list", .base (.lst h), kit_ty (by decide +kernel), k⟩
theorem is_bool {K : PySem.W.Frag} {H : Hp} {Q : VK} {b : Bool} (k : Q (.bl true) H) : rIsi K [.bl b, .ty "bool"] H Q := ⟨_, _, .type "bool", _, true, rfl, .ty "bool", .base (.bl b), kit_ty (by decide +kernel), k⟩
def sp_L_cell_at (K : PySem.W.Frag) (g : Gd) : Sp := fun vs H Q _ => ∃ (a : Addr) (ns : List Int) (j : Nat), vs = [.ref a, .int (j : Int)] ∧ SqL K H a (vI ns) ∧ Q (.int (ns.getD j 0)) H
theorem len_L_cell_at (K : PySem.W.Frag) (g : Gd) (vs : List V) (H : Hp) (Q : VK) (E : XK) (h : sp_L_cell_at K g vs H Q E) : vs.length = 2 := by obtain ⟨_, _, _, rfl, _⟩ := h; rfl
abbrev N_L_cell_at : List Str := ["script", "k"]
/-- _law_cell_at -/
def t_L_cell_at (K : PySem.W.Frag) (g : Gd) (E : XK) : TS :=
  (tSeq (tIfS (tTest (tOp rLtI (tVar 1) (tCB (rLenQ K) (tCons (tVar 0) tNil)))) (tRet (tOp (rIxL K) (tVar 0) (tVar 1))) tNext)
    (tRet (tC (.int 0))))
theorem pure_L_cell_at {K : PySem.W.Frag} {g : Gd} (vs : List V) (H : Hp) (Q : VK) (E : XK) (h : sp_L_cell_at K g vs H Q E) : Rd1 (t_L_cell_at K g E) N_L_cell_at vs H Q := by
  obtain ⟨a, ns, j, rfl, hS, k⟩ := h
  unfold t_L_cell_at
  walk_at "rd"
  refine len_LI hS ?_
  walk_at "rd"
  refine if_d (fun c => ?_) (fun c => ?_)
  · walk_at "rd"
    have hj : j < ns.length := by omega
    refine ix_L (i := j) (v := .int (ns.getD j 0)) hS (vI_at ?_) rfl k
    rw [List.getD_eq_getElem?_getD, List.getElem?_eq_getElem hj] <;> rfl
  · have e : ns.getD j 0 = 0 := by
      rw [List.getD_eq_getElem?_getD, List.getElem?_eq_none (by omega)] <;> rfl
    rw [e] at k
    exact k
def sp_L_whole (K : PySem.W.Frag) (g : Gd) : Sp := fun vs H Q _ => ∃ i : Int, vs = [.int i] ∧ Q (.bl true) H
theorem len_L_whole (K : PySem.W.Frag) (g : Gd) (vs : List V) (H : Hp) (Q : VK) (E : XK) (h : sp_L_whole K g vs H Q E) : vs.length = 1 := by obtain ⟨_, rfl, _⟩ := h; rfl
abbrev N_L_whole : List Str := ["found"]
/-- _law_whole -/
def t_L_whole (K : PySem.W.Frag) (g : Gd) (E : XK) : TS :=
  (tRet (tAndV (tCB (rIsi K) (tCons (tVar 0) (tCons (tC (.ty "int")) tNil))) (tNotV (tCB (rIsi K) (tCons (tVar 0) (tCons (tC (.ty "bool")) tNil))))))
theorem pure_L_whole {K : PySem.W.Frag} {g : Gd} (vs : List V) (H : Hp) (Q : VK) (E : XK) (h : sp_L_whole K g vs H Q E) : Rd1 (t_L_whole K g E) N_L_whole vs H Q := by
  obtain ⟨i, rfl, k⟩ := h
  refine ⟨_, rfl, _, _, .type "int", _, true, rfl, .ty "int", .base (.int i), kit_ty (by decide +kernel), true, rfl, iteT ?_⟩
  exact ⟨_, rfl, _, _, .type "int", _, false, rfl, .ty "bool", .base (.int i), kit_ty (by decide +kernel), _, rfl, k⟩
theorem joined_core {K : PySem.W.Frag} {p q : Addr} {a b : List Nat} {H : Hp} {Q : VK} {nx : L2.St → Hp → Prop} (hp : SqT K H p (vN a)) (hq : SqT K H q (vN b)) (hl : a.length ≤ 1000) (hlt : ∀ x ∈ a, x < b.length) (k : NewT H (jn a b) Q) :
    (tRet (tCB (rTupOf K) (tCons (tLc (iTup K (tVar 0)) (gName 2) tYes (tOp (rIxT K) (tVar 1) (tVar 2)) [2]) tNil))) { nx := nx, rt := Q } (start ["a", "b", "k"] [.ref p, .ref q]) H := by
  refine ⟨_, rfl, p, rfl, ⟨_, hp⟩, fun D hD => lc_tup (K := K) (a := p) (xs := vN a) (fun i H' => Same H H' ∧ H' D = some (.lst (vN (jn (a.take i) b)))) ⟨(Same.refl H).new hD, upd_same⟩ (fun i H' _ s => s.1.tup hp) ?_ ?_⟩
  · rintro i x H' hi ⟨s, hD'⟩
    obtain ⟨n, hn, rfl⟩ := vN_get hi
    have hnb : n < b.length := hlt n (List.mem_of_getElem? hn)
    refine ⟨rfl, ?_⟩
    walk_at "rd"
    refine ix_TN (i := n) (s.tup hq) hnb rfl ?_
    refine ⟨_, hD', ?_, s.up hD, ?_⟩
    · rw [vN_len, jn_len, List.length_take]; exact zlt (by omega)
    · rw [upd_same, vN_app, take_more hn]
      show _ = some (HO.lst (vN ((a.take i ++ [n]).map fun k => b.getD k 0)))
      rw [List.map_append] <;> rfl
  · rintro H' ⟨s, hD'⟩
    rw [vN_len, List.take_length] at hD'
    refine tup_L (sqL hD') fun r hr => k r _ (s.new hr) (s.free hr) upd_same
def sp_L_joined (K : PySem.W.Frag) (g : Gd) : Sp := fun vs H Q _ => ∃ (p q : Addr) (a b : List Nat), vs = [.ref p, .ref q] ∧ SqT K H p (vN a) ∧ SqT K H q (vN b) ∧ a.length ≤ 1000 ∧ (∀ x ∈ a, x < b.length) ∧ NewT H (jn a b) Q
theorem len_L_joined (K : PySem.W.Frag) (g : Gd) (vs : List V) (H : Hp) (Q : VK) (E : XK) (h : sp_L_joined K g vs H Q E) : vs.length = 2 := by obtain ⟨_, _, _, _, rfl, _⟩ := h; rfl
abbrev N_L_joined : List Str := ["a", "b", "k"]
/-- _law_joined -/
def t_L_joined (K : PySem.W.Frag) (g : Gd) (E : XK) : TS :=
  (tRet (tCB (rTupOf K) (tCons (tLc (iTup K (tVar 0)) (gName 2) tYes (tOp (rIxT K) (tVar 1) (tVar 2)) [2]) tNil)))
theorem pure_L_joined {K : PySem.W.Frag} {g : Gd} (vs : List V) (H : Hp) (Q : VK) (E : XK) (h : sp_L_joined K g vs H Q E) : Rd1 (t_L_joined K g E) N_L_joined vs H Q := by
  obtain ⟨p, q, a, b, rfl, hp, hq, hl, hlt, k⟩ := h
  exact joined_core hp hq hl hlt k
def sp_joined (K : PySem.W.Frag) (g : Gd) : Sp := fun vs H Q _ => ∃ (p q : Addr) (a b : List Nat), vs = [.ref p, .ref q] ∧ SqT K H p (vN a) ∧ SqT K H q (vN b) ∧ a.length ≤ 1000 ∧ (∀ x ∈ a, x < b.length) ∧ NewT H (jn a b) Q
theorem len_joined (K : PySem.W.Frag) (g : Gd) (vs : List V) (H : Hp) (Q : VK) (E : XK) (h : sp_joined K g vs H Q E) : vs.length = 2 := by obtain ⟨_, _, _, _, rfl, _⟩ := h; rfl
abbrev N_joined : List Str := ["a", "b", "k"]
/-- joined -/
def t_joined (K : PySem.W.Frag) (g : Gd) (E : XK) : TS :=
  (tRet (tCB (rTupOf K) (tCons (tLc (iTup K (tVar 0)) (gName 2) tYes (tOp (rIxT K) (tVar 1) (tVar 2)) [2]) tNil)))
theorem pure_joined {K : PySem.W.Frag} {g : Gd} (vs : List V) (H : Hp) (Q : VK) (E : XK) (h : sp_joined K g vs H Q E) : Rd1 (t_joined K g E) N_joined vs H Q := by
  obtain ⟨p, q, a, b, rfl, hp, hq, hl, hlt, k⟩ := h
  exact joined_core hp hq hl hlt k
def sp_is_seating (K : PySem.W.Frag) (g : Gd) : Sp := fun vs H Q _ => ∃ (p : Addr) (a : List Int), vs = [.ref p] ∧ SqT K H p (vI a) ∧ a.length ≤ 1000 ∧ Q (.bl (SeatB a)) H
theorem len_is_seating (K : PySem.W.Frag) (g : Gd) (vs : List V) (H : Hp) (Q : VK) (E : XK) (h : sp_is_seating K g vs H Q E) : vs.length = 1 := by obtain ⟨_, _, rfl, _⟩ := h; rfl
abbrev N_is_seating : List Str := ["row", "k"]
/-- is_seating -/
def t_is_seating (K : PySem.W.Frag) (g : Gd) (E : XK) : TS :=
  (tSeq (tIfS (tOr (tTest (tOp rLtI (tCB (rLenQ K) (tCons (tVar 0) tNil)) (tC (.int 1)))) (tTest (tOp rGtI (tCB (rLenQ K) (tCons (tVar 0) tNil)) (tC (.int 16))))) (tRet (tC (.bl false))) tNext)
    (tSeq (tFor (iRng1 (tCons (tCB (rLenQ K) (tCons (tVar 0) tNil)) tNil)) (gName 1) (tIfS (tTest (tOp (rIn K true) (tVar 1) (tVar 0))) (tRet (tC (.bl false))) tNext))
    (tRet (tC (.bl true)))))
theorem seatB_no {a : List Int} (h : ¬ (1 ≤ a.length ∧ a.length ≤ 16)) : SeatB a = false := by
  unfold SeatB
  by_cases h1 : 1 ≤ a.length
  · rw [decide_eq_true h1, decide_eq_false (fun z => h ⟨h1, z⟩)] <;> rfl
  · rw [decide_eq_false h1] <;> rfl
theorem seatB_no' {a : List Int} {k : Nat} (hk : k < a.length) (h : ¬ (k : Int) ∈ a) : SeatB a = false := by
  unfold SeatB
  have : ((List.range a.length).all fun k => decide ((k : Int) ∈ a)) = false := by
    refine Bool.eq_false_iff.mpr fun z => h ?_
    exact of_decide_eq_true (List.all_eq_true.mp z k (List.mem_range.mpr hk))
  rw [this, Bool.and_false]
theorem seatB_yes {a : List Int} (h1 : 1 ≤ a.length) (h2 : a.length ≤ 16) (h : ∀ k, k < a.length → (k : Int) ∈ a) : SeatB a = true := by
  unfold SeatB
  rw [decide_eq_true h1, decide_eq_true h2]
  exact List.all_eq_true.mpr fun k hk => decide_eq_true (h k (List.mem_range.mp hk))
theorem pure_is_seating {K : PySem.W.Frag} {g : Gd} (vs : List V) (H : Hp) (Q : VK) (E : XK) (h : sp_is_seating K g vs H Q E) : Rd1 (t_is_seating K g E) N_is_seating vs H Q := by
  obtain ⟨p, a, rfl, h, hl, k⟩ := h
  unfold t_is_seating
  walk_at "rd"
  refine len_TI h ?_
  walk_at "rd"
  refine if_d (fun c => ?_) (fun c => ?_)
  · walk_at "rd"
    rw [seatB_no (by omega)] at k
    exact k
  walk_at "rd"
  refine len_TI h ?_
  walk_at "rd"
  refine if_d (fun c2 => ?_) (fun c2 => ?_)
  · walk_at "rd"
    rw [seatB_no (by omega)] at k
    exact k
  walk_at "rd"
  refine len_TI h ?_
  walk_at "rd"
  refine w_for1 (by omega) (fun i σ H' => (∃ v, σ = [some (.ref p), v]) ∧ H' = H ∧ ∀ j, j < i → (j : Int) ∈ a) ⟨⟨_, rfl⟩, rfl, fun j hj => absurd hj (Nat.not_lt_zero j)⟩ ?_ ?_
  · rintro i σ H' hi ⟨⟨v, rfl⟩, rfl, hall⟩
    walk_at "rd"
    refine notin_TI h ?_
    walk_at "rd"
    refine if_nd (fun m => ?_) (fun m => ?_)
    · walk_at "rd"
      rw [seatB_no' hi m] at k
      exact k
    · walk_at "rd"
      refine ⟨⟨_, rfl⟩, rfl, fun j hj => ?_⟩
      by_cases e : j = i
      · rw [e]; exact m
      · exact hall j (by omega)
  · rintro σ H' ⟨⟨v, rfl⟩, rfl, hall⟩
    walk_at "rd"
    rw [seatB_yes (by omega) (by omega) hall] at k
    exact k
def sp_ask_seating (K : PySem.W.Frag) (g : Gd) : Sp := fun vs H Q E => ∃ (p : Addr) (a : List Int), vs = [.ref p] ∧ SqT K H p (vI a) ∧ a.length ≤ 1000 ∧ (SeatB a = true → Q .non H) ∧ (SeatB a = false → E (.ref g.NoSeating) none H)
theorem len_ask_seating (K : PySem.W.Frag) (g : Gd) (vs : List V) (H : Hp) (Q : VK) (E : XK) (h : sp_ask_seating K g vs H Q E) : vs.length = 1 := by obtain ⟨_, _, rfl, _⟩ := h; rfl
abbrev N_ask_seating : List Str := ["a"]
/-- ask_seating -/
def t_ask_seating (K : PySem.W.Frag) (g : Gd) (E : XK) : TS :=
  (tIfS (tNot (tB (tCallS (sp_is_seating K g) (fun _ => E0) (tCons (tVar 0) tNil)))) (tRaiseW (wE E) g.NoSeating) tNext)
theorem pure_ask_seating {K : PySem.W.Frag} {g : Gd} (vs : List V) (H : Hp) (Q : VK) (E : XK) (h : sp_ask_seating K g vs H Q E) : Rd1 (t_ask_seating K g E) N_ask_seating vs H Q := by
  obtain ⟨p, a, rfl, h, hl, k, e⟩ := h
  unfold t_ask_seating
  walk_at "rd"
  refine ⟨p, a, rfl, h, hl, ?_⟩
  walk_at "rd"
  refine if_nb (fun c => e c) (fun c => k c)
def sp_ask_size (K : PySem.W.Frag) (g : Gd) : Sp := fun vs H Q E => ∃ n : Int, vs = [.int n] ∧ (1 ≤ n ∧ n ≤ 16 → Q .non H) ∧ (¬ (1 ≤ n ∧ n ≤ 16) → E (.ref g.NoSize) none H)
theorem len_ask_size (K : PySem.W.Frag) (g : Gd) (vs : List V) (H : Hp) (Q : VK) (E : XK) (h : sp_ask_size K g vs H Q E) : vs.length = 1 := by obtain ⟨_, rfl, _⟩ := h; rfl
abbrev N_ask_size : List Str := ["size"]
/-- ask_size -/
def t_ask_size (K : PySem.W.Frag) (g : Gd) (E : XK) : TS :=
  (tIfS (tOr (tTest (tOp rLtI (tVar 0) (tC (.int 1)))) (tTest (tOp rGtI (tVar 0) (tC (.int 16))))) (tRaiseW (wE E) g.NoSize) tNext)
theorem pure_ask_size {K : PySem.W.Frag} {g : Gd} (vs : List V) (H : Hp) (Q : VK) (E : XK) (h : sp_ask_size K g vs H Q E) : Rd1 (t_ask_size K g E) N_ask_size vs H Q := by
  obtain ⟨n, rfl, k, e⟩ := h
  unfold t_ask_size
  walk_at "rd"
  refine if_d (fun c => ?_) (fun c => ?_)
  · walk_at "rd"
    exact e (by omega)
  walk_at "rd"
  refine if_d (fun c2 => ?_) (fun c2 => ?_)
  · exact e (by omega)
  · exact k (by omega)
def sp_rest (K : PySem.W.Frag) (g : Gd) : Sp := fun vs H Q E => ∃ n : Int, vs = [.int n] ∧ (1 ≤ n ∧ n ≤ 16 → NewT H (List.range n.toNat) Q) ∧ (¬ (1 ≤ n ∧ n ≤ 16) → E (.ref g.NoSize) none H)
theorem len_rest (K : PySem.W.Frag) (g : Gd) (vs : List V) (H : Hp) (Q : VK) (E : XK) (h : sp_rest K g vs H Q E) : vs.length = 1 := by obtain ⟨_, rfl, _⟩ := h; rfl
abbrev N_rest : List Str := ["size"]
/-- rest -/
def t_rest (K : PySem.W.Frag) (g : Gd) (E : XK) : TS :=
  (tSeq (tDrop (tCallS (sp_ask_size K g) (WE (wE E)) (tCons (tVar 0) tNil)))
    (tRet (tTupRg (tRg1 (tVar 0)))))
theorem pure_rest {K : PySem.W.Frag} {g : Gd} (vs : List V) (H : Hp) (Q : VK) (E : XK) (h : sp_rest K g vs H Q E) : Rd1 (t_rest K g E) N_rest vs H Q := by
  obtain ⟨n, rfl, k, e⟩ := h
  unfold t_rest
  walk_at "rd"
  refine ⟨n, rfl, fun c => ?_, e⟩
  obtain ⟨m, rfl⟩ : ∃ m : Nat, n = (m : Int) := ⟨n.toNat, by omega⟩
  walk_at "rd"
  refine ⟨rgOk_N (by omega), fun r hr => ?_⟩
  exact k c r _ ((Same.refl H).new hr) hr (by rw [upd_same, rgV_N] <;> rfl)
theorem erase_perm {α : Type} : ∀ {l : List α} {i : Nat} (h : i < l.length), (l[i] :: l.eraseIdx i).Perm l
  | [], _, h => absurd h (Nat.not_lt_zero _)
  | _ :: _, 0, _ => List.Perm.refl _
  | a :: l, i + 1, h => by
    have h' : i < l.length := Nat.lt_of_succ_lt_succ h
    have ih := erase_perm (l := l) (i := i) h'
    show (l[i] :: a :: l.eraseIdx i).Perm (a :: l)
    exact (List.Perm.swap a l[i] _).trans (List.Perm.cons a ih)
/-- drawing: the i-th of what is left, put behind what is drawn -/
theorem draw_perm {left row : List Nat} {i : Nat} (h : i < left.length) : ((row ++ [left.getD i 0]) ++ left.eraseIdx i).Perm (row ++ left) := by
  rw [List.append_assoc]
  refine List.Perm.append_left row ?_
  have e : left.getD i 0 = left[i] := by rw [List.getD_eq_getElem?_getD, List.getElem?_eq_getElem h] <;> rfl
  rw [e]
  exact erase_perm h
def drawStep (n : Nat) (f : Int → Int) (d : Int → Int → Int) (s : Int × List Nat × List Nat) (k : Nat) : Int × List Nat × List Nat :=
  let c := f s.1
  let m : Int := (n : Int) - (k : Int)
  (d c m, s.2.1.eraseIdx (c % m).toNat, s.2.2 ++ [s.2.1.getD (c % m).toNat 0])
def drawSt (n : Nat) (f : Int → Int) (d : Int → Int → Int) (c : Int) (k : Nat) : Int × List Nat × List Nat := (List.range k).foldl (drawStep n f d) (c, List.range n, [])
theorem drawSt_succ (n : Nat) (f : Int → Int) (d : Int → Int → Int) (c : Int) (k : Nat) : drawSt n f d c (k + 1) = drawStep n f d (drawSt n f d c k) k := by
  unfold drawSt
  rw [List.range_succ, List.foldl_append] <;> rfl
theorem drawSt_ok (n : Nat) (f : Int → Int) (d : Int → Int → Int) (c : Int) : ∀ k, k ≤ n → (drawSt n f d c k).2.1.length = n - k ∧ (drawSt n f d c k).2.2.length = k ∧ ((drawSt n f d c k).2.2 ++ (drawSt n f d c k).2.1).Perm (List.range n)
  | 0, _ => ⟨List.length_range, rfl, List.Perm.refl _⟩
  | k + 1, hk => by
    obtain ⟨h1, h2, h3⟩ := drawSt_ok n f d c k (by omega)
    rw [drawSt_succ]
    have hm : (0 : Int) < (n : Int) - (k : Int) := by omega
    have hi : ((f (drawSt n f d c k).1) % ((n : Int) - (k : Int))).toNat < (drawSt n f d c k).2.1.length := by
      have a := Int.emod_nonneg (f (drawSt n f d c k).1) (Int.ne_of_gt hm)
      have b := Int.emod_lt_of_pos (f (drawSt n f d c k).1) hm
      omega
    refine ⟨?_, ?_, (draw_perm hi).trans h3⟩
    · show (List.eraseIdx _ _).length = _
      rw [List.length_eraseIdx_of_lt hi, h1]; omega
    · show (_ ++ [_]).length = _
      rw [List.length_append, h2]; rfl
theorem drawSt_perm (n : Nat) (f : Int → Int) (d : Int → Int → Int) (c : Int) : IsP n (drawSt n f d c n).2.2 := by
  obtain ⟨h1, h2, h3⟩ := drawSt_ok n f d c n (Nat.le_refl n)
  have e : (drawSt n f d c n).2.1 = [] := List.length_eq_zero_iff.mp (by omega)
  rw [e, List.append_nil] at h3
  exact h3
/-- any seating of n by a cell -/
def seatN (c : Int) (n : Nat) : List Nat := (drawSt n (fun c => c) (fun c m => c / m) c n).2.2
/-- .. by a cell mixed -/
def farN (c : Int) (n : Nat) : List Nat := (drawSt n (fun c => (c * 48271 + 11) % 2147483647) (fun c _ => c) c n).2.2
theorem isP_seat (c : Int) (n : Nat) : IsP n (seatN c n) := drawSt_perm _ _ _ _
theorem isP_far (c : Int) (n : Nat) : IsP n (farN c n) := drawSt_perm _ _ _ _
def sp_L_seating (K : PySem.W.Frag) (g : Gd) : Sp := fun vs H Q _ => ∃ (c : Int) (n : Nat), vs = [.int c, .int (n : Int)] ∧ n ≤ 1000 ∧ NewT H (seatN c n) Q
theorem len_L_seating (K : PySem.W.Frag) (g : Gd) (vs : List V) (H : Hp) (Q : VK) (E : XK) (h : sp_L_seating K g vs H Q E) : vs.length = 2 := by obtain ⟨_, _, rfl, _⟩ := h; rfl
abbrev N_L_seating : List Str := ["cell", "size", "left", "row", "k"]
/-- _law_seating -/
def t_L_seating (K : PySem.W.Frag) (g : Gd) (E : XK) : TS :=
  (tSeq (tAsg (tLstRg (tRg1 (tVar 1))) (gName 2))
    (tSeq (tAsg (tLst tNil) (gName 3))
    (tSeq (tFor (iRng1 (tCons (tVar 1) tNil)) (gName 4) (tSeq (tDrop (tBM K "list" rAppend (tVar 3) (tCons (tBM K "list" rPopAt (tVar 2) (tCons (tOp rModI (tVar 0) (tOp rSubI (tVar 1) (tVar 4))) tNil)) tNil)))
    (tAsg (tOp rDivI (tVar 0) (tOp rSubI (tVar 1) (tVar 4))) (gName 0))))
    (tRet (tCB (rTupOf K) (tCons (tVar 3) tNil))))))
theorem pure_L_seating {K : PySem.W.Frag} {g : Gd} (vs : List V) (H : Hp) (Q : VK) (E : XK) (h : sp_L_seating K g vs H Q E) : Rd1 (t_L_seating K g E) N_L_seating vs H Q := by
  obtain ⟨c, n, rfl, hn, k⟩ := h
  unfold t_L_seating
  walk_at "rd"
  refine ⟨rgOk_N (by omega), fun l hl => ?_⟩
  rw [rgV_N]
  have s1 : Same H (upd H l (.lst (vN (List.range n)))) := (Same.refl H).new hl
  walk_at "rd"
  refine ⟨zl (Nat.zero_le _), fun r hr => ?_⟩
  have hr0 := s1.free hr
  have s2 := s1.new (o := .lst []) hr
  have hlr : l ≠ r := ne_of_none upd_same hr
  walk_at "rd"
  refine w_for1 (by omega) (fun i σ H' => (∃ v, σ = [some (.int (drawSt n (fun c => c) (fun c m => c / m) c i).1), some (.int (n : Int)), some (.ref l), some (.ref r), v]) ∧ Same H H' ∧
    H' l = some (.lst (vN (drawSt n (fun c => c) (fun c m => c / m) c i).2.1)) ∧ H' r = some (.lst (vN (drawSt n (fun c => c) (fun c m => c / m) c i).2.2))) ⟨⟨_, rfl⟩, s2, by rw [upd_ne hlr, upd_same] <;> rfl, upd_same⟩ ?_ ?_
  · rintro i σ H' hi ⟨⟨v, rfl⟩, s, hL, hR⟩
    have ok := drawSt_ok n (fun c => c) (fun c m => c / m) c i (by omega)
    have hst := drawSt_succ n (fun c => c) (fun c m => c / m) c i
    generalize drawSt n (fun c => c) (fun c m => c / m) c i = st at ok hst hL hR ⊢
    obtain ⟨c1, left, row⟩ := st
    obtain ⟨o1, o2, _⟩ := ok
    dsimp only at o1 o2 hL hR ⊢
    rw [hst]
    have hm : (0 : Int) < (n : Int) - (i : Int) := by omega
    have b1 := Int.emod_nonneg c1 (Int.ne_of_gt hm)
    have b2 := Int.emod_lt_of_pos c1 hm
    walk_at "rd"
    refine ⟨isL (sqL hR), ?_⟩
    walk_at "rd"
    refine ⟨isL (sqL hL), ?_⟩
    walk_at "rd"
    refine mod_I hm ?_
    walk_at "rd"
    refine pop_N (i := (c1 % ((n : Int) - (i : Int))).toNat) hL (by omega) (by omega) (by omega) ?_
    walk_at "rd"
    refine app_N (a := row) (by rw [upd_ne hlr.symm]; exact hR) (by omega) ?_
    walk_at "rd"
    refine div_I hm (by omega) ?_
    refine ⟨⟨_, rfl⟩, (s.up hl).up hr0, ?_, upd_same⟩
    rw [upd_ne hlr, upd_same] <;> rfl
  · rintro σ H' ⟨⟨v, rfl⟩, s, hL, hR⟩
    walk_at "rd"
    exact tup_L (sqL hR) fun q hq => k q _ (s.new hq) (s.free hq) upd_same
def sp_L_far (K : PySem.W.Frag) (g : Gd) : Sp := fun vs H Q _ => ∃ (c : Int) (n : Nat), vs = [.int c, .int (n : Int)] ∧ n ≤ 1000 ∧ NewT H (farN c n) Q
theorem len_L_far (K : PySem.W.Frag) (g : Gd) (vs : List V) (H : Hp) (Q : VK) (E : XK) (h : sp_L_far K g vs H Q E) : vs.length = 2 := by obtain ⟨_, _, rfl, _⟩ := h; rfl
abbrev N_L_far : List Str := ["cell", "size", "left", "row", "k"]
/-- _law_far -/
def t_L_far (K : PySem.W.Frag) (g : Gd) (E : XK) : TS :=
  (tSeq (tAsg (tLstRg (tRg1 (tVar 1))) (gName 2))
    (tSeq (tAsg (tLst tNil) (gName 3))
    (tSeq (tFor (iRng1 (tCons (tVar 1) tNil)) (gName 4) (tSeq (tAsg (tOp rModI (tOp rAddI (tOp rMulI (tVar 0) (tC (.int 48271))) (tC (.int 11))) (tC (.int 2147483647))) (gName 0))
    (tDrop (tBM K "list" rAppend (tVar 3) (tCons (tBM K "list" rPopAt (tVar 2) (tCons (tOp rModI (tVar 0) (tOp rSubI (tVar 1) (tVar 4))) tNil)) tNil)))))
    (tRet (tCB (rTupOf K) (tCons (tVar 3) tNil))))))
theorem pure_L_far {K : PySem.W.Frag} {g : Gd} (vs : List V) (H : Hp) (Q : VK) (E : XK) (h : sp_L_far K g vs H Q E) : Rd1 (t_L_far K g E) N_L_far vs H Q := by
  obtain ⟨c, n, rfl, hn, k⟩ := h
  unfold t_L_far
  walk_at "rd"
  refine ⟨rgOk_N (by omega), fun l hl => ?_⟩
  rw [rgV_N]
  have s1 : Same H (upd H l (.lst (vN (List.range n)))) := (Same.refl H).new hl
  walk_at "rd"
  refine ⟨zl (Nat.zero_le _), fun r hr => ?_⟩
  have hr0 := s1.free hr
  have s2 := s1.new (o := .lst []) hr
  have hlr : l ≠ r := ne_of_none upd_same hr
  walk_at "rd"
  refine w_for1 (by omega) (fun i σ H' => (∃ v, σ = [some (.int (drawSt n (fun c => (c * 48271 + 11) % 2147483647) (fun c _ => c) c i).1), some (.int (n : Int)), some (.ref l), some (.ref r), v]) ∧ Same H H' ∧
    H' l = some (.lst (vN (drawSt n (fun c => (c * 48271 + 11) % 2147483647) (fun c _ => c) c i).2.1)) ∧ H' r = some (.lst (vN (drawSt n (fun c => (c * 48271 + 11) % 2147483647) (fun c _ => c) c i).2.2))) ⟨⟨_, rfl⟩, s2, by rw [upd_ne hlr, upd_same] <;> rfl, upd_same⟩ ?_ ?_
  · rintro i σ H' hi ⟨⟨v, rfl⟩, s, hL, hR⟩
    have ok := drawSt_ok n (fun c => (c * 48271 + 11) % 2147483647) (fun c _ => c) c i (by omega)
    have hst := drawSt_succ n (fun c => (c * 48271 + 11) % 2147483647) (fun c _ => c) c i
    generalize drawSt n (fun c => (c * 48271 + 11) % 2147483647) (fun c _ => c) c i = st at ok hst hL hR ⊢
    obtain ⟨c1, left, row⟩ := st
    obtain ⟨o1, o2, _⟩ := ok
    dsimp only at o1 o2 hL hR ⊢
    rw [hst]
    have hm : (0 : Int) < (n : Int) - (i : Int) := by omega
    have b1 := Int.emod_nonneg ((c1 * 48271 + 11) % 2147483647) (Int.ne_of_gt hm)
    have b2 := Int.emod_lt_of_pos ((c1 * 48271 + 11) % 2147483647) hm
    walk_at "rd"
    refine mul_I (.inr ⟨by decide, by decide⟩) ?_
    walk_at "rd"
    refine mod_I (by decide) ?_
    walk_at "rd"
    refine ⟨isL (sqL hR), ?_⟩
    walk_at "rd"
    refine ⟨isL (sqL hL), ?_⟩
    walk_at "rd"
    refine mod_I hm ?_
    walk_at "rd"
    refine pop_N (i := (((c1 * 48271 + 11) % 2147483647) % ((n : Int) - (i : Int))).toNat) hL (by omega) (by omega) (by omega) ?_
    walk_at "rd"
    refine app_N (a := row) (by rw [upd_ne hlr.symm]; exact hR) (by omega) ?_
    refine ⟨⟨_, rfl⟩, (s.up hl).up hr0, ?_, upd_same⟩
    rw [upd_ne hlr, upd_same] <;> rfl
  · rintro σ H' ⟨⟨v, rfl⟩, s, hL, hR⟩
    walk_at "rd"
    exact tup_L (sqL hR) fun q hq => k q _ (s.new hq) (s.free hq) upd_same
def sp_L_same (K : PySem.W.Frag) (g : Gd) : Sp := fun vs H Q _ => ∃ (p q : Addr) (a b : List Nat), vs = [.ref p, .ref q] ∧ H p = some (.tup (vN a)) ∧ SqT K H q (vN b) ∧ Q (.bl (decide (a = b))) H
theorem len_L_same (K : PySem.W.Frag) (g : Gd) (vs : List V) (H : Hp) (Q : VK) (E : XK) (h : sp_L_same K g vs H Q E) : vs.length = 2 := by obtain ⟨_, _, _, _, rfl, _⟩ := h; rfl
abbrev N_L_same : List Str := ["found", "due", "x"]
/-- _law_same -/
def t_L_same (K : PySem.W.Frag) (g : Gd) (E : XK) : TS :=
  (tSeq (tIfS (tOr (tNot (tB (tCB (rIsi K) (tCons (tVar 0) (tCons (tC (.ty "tuple")) tNil))))) (tTest (tOp rNe (tCB (rLenQ K) (tCons (tVar 0) tNil)) (tCB (rLenQ K) (tCons (tVar 1) tNil))))) (tRet (tC (.bl false))) tNext)
    (tSeq (tFor (iTup K (tVar 0)) (gName 2) (tIfS (tNot (tB (tCallS (sp_L_whole K g) (fun _ => E0) (tCons (tVar 2) tNil)))) (tRet (tC (.bl false))) tNext))
    (tRet (tOp (rEqD K) (tVar 0) (tVar 1)))))
theorem is_tup {K : PySem.W.Frag} {H : Hp} {Q : VK} {p : Addr} {xs : List V} (h : H p = some (.tup xs)) (k : Q (.bl true) H) : rIsi K [.ref p, .ty "tuple"] H Q :=
  ⟨_, _, .type "tuple", _, true, rfl, .ty "tuple", .base (.tup h), kit_ty (by decide +kernel), k⟩
theorem pure_L_same {K : PySem.W.Frag} {g : Gd} (vs : List V) (H : Hp) (Q : VK) (E : XK) (h : sp_L_same K g vs H Q E) : Rd1 (t_L_same K g E) N_L_same vs H Q := by
  obtain ⟨p, q, a, b, rfl, hp, hq, k⟩ := h
  unfold t_L_same
  walk_at "rd"
  refine is_tup hp ?_
  walk_at "rd"
  refine if_nb (fun c => by cases c) (fun _ => ?_)
  walk_at "rd"
  refine len_TN (sqT hp) ?_
  walk_at "rd"
  refine len_TN hq ?_
  walk_at "rd"
  refine if_nd (fun c => ?_) (fun c => ?_)
  · walk_at "rd"
    rw [decide_eq_false (fun z => c (by rw [z]))] at k
    exact k
  walk_at "rd"
  refine ⟨p, rfl, ⟨_, sqT hp⟩, for_tup (K := K) (a := p) (xs := vN a) (fun i σ H' => (∃ v, σ = [some (.ref p), some (.ref q), v]) ∧ H' = H) ⟨⟨_, rfl⟩, rfl⟩ (fun i σ H' _ s => by rw [s.2]; exact sqT hp) ?_ ?_⟩
  · rintro i x σ H' hi ⟨⟨v, rfl⟩, rfl⟩
    obtain ⟨m, _, rfl⟩ := vN_get hi
    refine (?_ : (tIfS _ _ _) _ _ _)
    walk_at "rd"
    refine ⟨_, rfl, ?_⟩
    walk_at "rd"
    exact if_nb (fun c => by cases c) (fun _ => ⟨⟨_, rfl⟩, rfl⟩)
  · rintro σ H' ⟨⟨v, rfl⟩, rfl⟩
    walk_at "rd"
    exact eq_TN (sqT hp) hq k
end Shf

/-! law k01 -/
namespace Shf
open PySem L2
theorem size16 (z : Int) : ∃ n : Nat, 1 + z % 16 = (n : Int) ∧ 1 ≤ n ∧ n ≤ 16 := by
  have a := Int.emod_nonneg z (b := 16) (by decide)
  have b := Int.emod_lt_of_pos z (b := 16) (by decide)
  exact ⟨(1 + z % 16).toNat, by omega, by omega, by omega⟩
end Shf

/-! rings of a seating: mathematics, rings, even; the laws' rings -/
namespace Shf
open PySem L2
/-! ### steps of a seating from a seat -/
def itr (a : List Nat) : Nat → Nat → Nat
  | 0, x => x
  | j + 1, x => a.getD (itr a j x) 0
section
variable {n : Nat} {a : List Nat}
theorem itr_lt (h : IsP n a) {x : Nat} (hx : x < n) : ∀ j, itr a j x < n
  | 0 => hx
  | j + 1 => h.getD_lt (itr_lt h hx j)
theorem itr_add (a : List Nat) (x : Nat) (j : Nat) : ∀ i, itr a (i + j) x = itr a i (itr a j x)
  | 0 => by rw [Nat.zero_add] <;> rfl
  | i + 1 => by
    rw [Nat.add_right_comm]
    show a.getD (itr a (i + j) x) 0 = a.getD (itr a i (itr a j x)) 0
    rw [itr_add a x j i]
theorem itr_inj (h : IsP n a) {x y : Nat} (hx : x < n) (hy : y < n) : ∀ j, itr a j x = itr a j y → x = y
  | 0, e => e
  | j + 1, e => by
    refine itr_inj h hx hy j ?_
    exact nd_getD h.nd (by rw [h.len]; exact itr_lt h hx j) (by rw [h.len]; exact itr_lt h hy j) e
theorem itr_back (h : IsP n a) {k : Nat} (hk : k < n) {i j : Nat} (hij : i ≤ j) (e : itr a i k = itr a j k) : itr a (j - i) k = k := by
  have e1 : itr a j k = itr a i (itr a (j - i) k) := by
    rw [← itr_add, Nat.add_comm, Nat.sub_add_cancel hij]
  rw [e1] at e
  exact (itr_inj h hk (itr_lt h hk _) i e).symm
theorem itr_ret (h : IsP n a) {k : Nat} (hk : k < n) : ∃ p, 1 ≤ p ∧ p ≤ n ∧ itr a p k = k := by
  refine Classical.byContradiction fun no => ?_
  have nd : ((List.range (n + 1)).map fun j => itr a j k).Nodup := by
    refine nd_of_getD fun i j hi hj e => ?_
    rw [List.length_map, List.length_range] at hi hj
    have g : ∀ i, i < n + 1 → ((List.range (n + 1)).map fun j => itr a j k).getD i 0 = itr a i k := fun i hi => by
      rw [List.getD_eq_getElem?_getD, List.getElem?_map, List.getElem?_range hi] <;> rfl
    rw [g i hi, g j hj] at e
    refine Decidable.byContradiction fun ne => ?_
    rcases Nat.lt_or_gt_of_ne ne with l | l
    · exact no ⟨j - i, by omega, by omega, itr_back h hk (Nat.le_of_lt l) e⟩
    · exact no ⟨i - j, by omega, by omega, itr_back h hk (Nat.le_of_lt l) e.symm⟩
  have hl := nd_sub_len (m := List.range n) nd fun x hx => by
    obtain ⟨j, _, rfl⟩ := List.mem_map.mp hx
    exact List.mem_range.mpr (itr_lt h hk j)
  rw [List.length_map, List.length_range, List.length_range] at hl
  omega
/-- the least number of steps, from j on, that comes back to k -/
def perF (a : List Nat) (k : Nat) : Nat → Nat → Nat
  | 0, j => j
  | f + 1, j => if itr a j k = k then j else perF a k f (j + 1)
theorem perF_spec (a : List Nat) (k : Nat) : ∀ f j p, j ≤ p → p ≤ j + f → itr a p k = k → itr a (perF a k f j) k = k ∧ j ≤ perF a k f j ∧ (∀ q, j ≤ q → q < perF a k f j → itr a q k ≠ k) ∧ perF a k f j ≤ p
  | 0, j, p, h1, h2, e => by
    have : p = j := by omega
    subst this
    exact ⟨e, Nat.le_refl _, fun q a b => absurd b (Nat.not_lt.mpr a), Nat.le_refl _⟩
  | f + 1, j, p, h1, h2, e => by
    unfold perF
    by_cases c : itr a j k = k
    · rw [if_pos c]
      exact ⟨c, Nat.le_refl _, fun q a b => absurd b (Nat.not_lt.mpr a), h1⟩
    · rw [if_neg c]
      have hne : p ≠ j := fun z => c (z ▸ e)
      obtain ⟨g1, g2, g3, g4⟩ := perF_spec a k f (j + 1) p (by omega) (by omega) e
      refine ⟨g1, by omega, fun q hq hl => ?_, g4⟩
      by_cases z : q = j
      · rw [z]; exact c
      · exact g3 q (by omega) hl
def per (a : List Nat) (k : Nat) : Nat := perF a k a.length 1
theorem per_spec (h : IsP n a) {k : Nat} (hk : k < n) : itr a (per a k) k = k ∧ 1 ≤ per a k ∧ (∀ q, 1 ≤ q → q < per a k → itr a q k ≠ k) ∧ per a k ≤ n := by
  obtain ⟨p, h1, h2, e⟩ := itr_ret h hk
  obtain ⟨g1, g2, g3, g4⟩ := perF_spec a k a.length 1 p h1 (by rw [h.len]; omega) e
  exact ⟨g1, g2, g3, Nat.le_trans g4 h2⟩
/-- the ring of a seat, from it on -/
def ring (a : List Nat) (k : Nat) : List Nat := (List.range (per a k)).map fun j => itr a j k
theorem ring_len (a : List Nat) (k : Nat) : (ring a k).length = per a k := by unfold ring; rw [List.length_map, List.length_range]
theorem itr_mul (h : IsP n a) {k : Nat} (hk : k < n) : ∀ m, itr a (m * per a k) k = k
  | 0 => by rw [Nat.zero_mul] <;> rfl
  | m + 1 => by rw [Nat.succ_mul, itr_add, (per_spec h hk).1, itr_mul h hk m]
theorem mem_ring (h : IsP n a) {k : Nat} (hk : k < n) (j : Nat) : itr a j k ∈ ring a k := by
  have hp := (per_spec h hk).2.1
  have e : itr a j k = itr a (j % per a k) k := by
    conv => lhs; rw [← Nat.div_add_mod j (per a k), Nat.add_comm, itr_add, Nat.mul_comm, itr_mul h hk]
  rw [e]
  exact List.mem_map.mpr ⟨j % per a k, List.mem_range.mpr (Nat.mod_lt _ hp), rfl⟩
theorem ring_mem {k x : Nat} (h : x ∈ ring a k) : ∃ j, j < per a k ∧ itr a j k = x := by
  obtain ⟨j, hj, e⟩ := List.mem_map.mp h
  exact ⟨j, List.mem_range.mp hj, e⟩
theorem ring_lt (h : IsP n a) {k x : Nat} (hk : k < n) (hx : x ∈ ring a k) : x < n := by
  obtain ⟨j, _, rfl⟩ := ring_mem hx
  exact itr_lt h hk j
theorem ring_self (h : IsP n a) {k : Nat} (hk : k < n) : k ∈ ring a k := mem_ring h hk 0
theorem ring_symm (h : IsP n a) {k x : Nat} (hk : k < n) (hx : x ∈ ring a k) : k ∈ ring a x := by
  obtain ⟨j, hj, rfl⟩ := ring_mem hx
  have e : itr a (per a k - j) (itr a j k) = k := by rw [← itr_add, Nat.sub_add_cancel (Nat.le_of_lt hj)]; exact (per_spec h hk).1
  have := mem_ring h (itr_lt h hk j) (per a k - j)
  rw [e] at this
  exact this
theorem ring_trans (h : IsP n a) {k x y : Nat} (hk : k < n) (hx : x ∈ ring a k) (hy : y ∈ ring a x) : y ∈ ring a k := by
  obtain ⟨j, _, rfl⟩ := ring_mem hx
  obtain ⟨i, _, rfl⟩ := ring_mem hy
  rw [← itr_add]
  exact mem_ring h hk _
theorem ring_nd (h : IsP n a) {k : Nat} (hk : k < n) : (ring a k).Nodup := by
  obtain ⟨_, h1, h2, _⟩ := per_spec h hk
  refine nd_of_getD fun i j hi hj e => ?_
  rw [ring_len] at hi hj
  have g : ∀ i, i < per a k → (ring a k).getD i 0 = itr a i k := fun i hi => by
    unfold ring
    rw [List.getD_eq_getElem?_getD, List.getElem?_map, List.getElem?_range hi] <;> rfl
  rw [g i hi, g j hj] at e
  refine Decidable.byContradiction fun ne => ?_
  rcases Nat.lt_or_gt_of_ne ne with l | l
  · exact h2 (j - i) (by omega) (by omega) (itr_back h hk (Nat.le_of_lt l) e)
  · exact h2 (i - j) (by omega) (by omega) (itr_back h hk (Nat.le_of_lt l) e.symm)
/-- k is the least of its ring -/
def isMin (a : List Nat) (k : Nat) : Bool := (ring a k).all fun x => decide (k ≤ x)
theorem isMin_iff {k : Nat} : isMin a k = true ↔ ∀ x ∈ ring a k, k ≤ x := by
  unfold isMin
  rw [List.all_eq_true]
  exact ⟨fun h x hx => of_decide_eq_true (h x hx), fun h x hx => decide_eq_true (h x hx)⟩
/-- a list of numbers has a least -/
theorem least_of : ∀ (l : List Nat), l ≠ [] → ∃ m ∈ l, ∀ x ∈ l, m ≤ x
  | [], h => absurd rfl h
  | [x], _ => ⟨x, List.mem_singleton.mpr rfl, fun y hy => by rw [List.mem_singleton.mp hy]; exact Nat.le_refl _⟩
  | x :: y :: r, _ => by
    obtain ⟨m, hm, hl⟩ := least_of (y :: r) (by simp)
    by_cases c : x ≤ m
    · exact ⟨x, List.mem_cons_self, fun z hz => by
        rcases List.mem_cons.mp hz with e | hz
        · rw [e]; exact Nat.le_refl _
        · exact Nat.le_trans c (hl z hz)⟩
    · exact ⟨m, List.mem_cons_of_mem _ hm, fun z hz => by
        rcases List.mem_cons.mp hz with e | hz
        · rw [e]; omega
        · exact hl z hz⟩
/-- some ring that starts below k holds k beyond its start: just where k is not the least of its own -/
def SeenP (a : List Nat) (k x : Nat) : Prop := ∃ q, q < k ∧ isMin a q = true ∧ x ∈ ring a q ∧ x ≠ q
theorem seen_iff (h : IsP n a) {k : Nat} (hk : k < n) : SeenP a k k ↔ isMin a k = false := by
  constructor
  · rintro ⟨q, hq, _, hx, _⟩
    refine Bool.eq_false_iff.mpr fun z => ?_
    have := isMin_iff.mp z q (ring_symm h (by omega) hx)
    omega
  · intro z
    obtain ⟨m, hm, hl⟩ := least_of (ring a k) (fun e => by have := ring_self h hk; rw [e] at this; cases this)
    have hmn := ring_lt h hk hm
    have hmk : m ≠ k := fun e => by
      have : isMin a k = true := isMin_iff.mpr (fun x hx => by rw [← e]; exact hl x hx)
      rw [this] at z; cases z
    have hle := hl k (ring_self h hk)
    refine ⟨m, by omega, isMin_iff.mpr fun x hx => hl x (ring_trans h hk hm hx), ring_symm h hk hm, fun e => hmk e.symm⟩
/-- the rings of two seats or more whose first seats lie below m -/
def ringsK (a : List Nat) (m : Nat) : List (List Nat) := ((List.range m).filter fun k => isMin a k && decide (1 < per a k)).map (ring a)
def ringsN (a : List Nat) : List (List Nat) := ringsK a a.length
theorem ringsK_succ (a : List Nat) (m : Nat) : ringsK a (m + 1) = ringsK a m ++ (if isMin a m && decide (1 < per a m) then [ring a m] else []) := by
  unfold ringsK
  rw [List.range_succ, List.filter_append, List.map_append]
  congr 1
  by_cases c : (isMin a m && decide (1 < per a m)) = true
  · rw [List.filter_cons, if_pos c, if_pos c] <;> rfl
  · rw [List.filter_cons, if_neg c, if_neg c] <;> rfl
theorem ringsK_len (a : List Nat) : ∀ m, (ringsK a m).length ≤ m
  | m => by
    unfold ringsK
    rw [List.length_map]
    have := List.length_filter_le (fun k => isMin a k && decide (1 < per a k)) (List.range m)
    rw [List.length_range] at this
    exact this
end
/-! ### a list of tuples of numbers -/
inductive LT (H : Hp) : List V → List (List Nat) → Prop
  | nil : LT H [] []
  | cons {p : Addr} {a : List Nat} {vs : List V} {as : List (List Nat)} : H p = some (.tup (vN a)) → LT H vs as → LT H (.ref p :: vs) (a :: as)
theorem LT.mono {H H' : Hp} (s : Same H H') {vs : List V} {as : List (List Nat)} (h : LT H vs as) : LT H' vs as := by
  induction h with
  | nil => exact .nil
  | cons h _ ih => exact .cons (s _ _ h) ih
theorem LT.snoc {H : Hp} {p : Addr} {a : List Nat} (hp : H p = some (.tup (vN a))) {vs : List V} {as : List (List Nat)} (h : LT H vs as) : LT H (vs ++ [.ref p]) (as ++ [a]) := by
  induction h with
  | nil => exact .cons hp .nil
  | cons h _ ih => exact .cons h ih
theorem LT.len {H : Hp} {vs : List V} {as : List (List Nat)} (h : LT H vs as) : vs.length = as.length := by
  induction h with
  | nil => rfl
  | cons _ _ ih => simp [ih]
theorem LT.get {H : Hp} {vs : List V} {as : List (List Nat)} (h : LT H vs as) : ∀ {i : Nat} {a : List Nat}, as[i]? = some a → ∃ p, vs[i]? = some (.ref p) ∧ H p = some (.tup (vN a)) := by
  induction h with
  | nil => intro i a e; simp at e
  | cons h _ ih =>
    intro i a e
    cases i with
    | zero => cases e; exact ⟨_, rfl, h⟩
    | succ i => exact ih (by simpa using e)
theorem LT.get' {H : Hp} {vs : List V} {as : List (List Nat)} (h : LT H vs as) : ∀ {i : Nat} {v : V}, vs[i]? = some v → ∃ p a, v = .ref p ∧ as[i]? = some a ∧ H p = some (.tup (vN a)) := by
  induction h with
  | nil => intro i a e; simp at e
  | cons h _ ih =>
    intro i a e
    cases i with
    | zero => cases e; exact ⟨_, _, rfl, rfl, h⟩
    | succ i => exact ih (by simpa using e)
theorem upd_list_same {H H' : Hp} {p : Addr} {o : HO} (s : Same H H') (h : H p = none) : Same H (upd H' p o) := s.up h
/-- what changes is no tuple: the tuples stand -/
theorem LT.upL {H : Hp} {l : Addr} {xs : List V} {o : HO} (hl : H l = some (.lst xs)) {vs : List V} {as : List (List Nat)} (h : LT H vs as) : LT (L2.upd H l o) vs as := by
  induction h with
  | nil => exact .nil
  | cons h _ ih => exact .cons (by rw [upd_ne (ne_of h hl (by intro z; cases z))]; exact h) ih
theorem LT.updD {H : Hp} {l : Addr} {xs : List (Key × V)} {o : HO} (hl : H l = some (.dK xs)) {vs : List V} {as : List (List Nat)} (h : LT H vs as) : LT (L2.upd H l o) vs as := by
  induction h with
  | nil => exact .nil
  | cons h _ ih => exact .cons (by rw [upd_ne (ne_of h hl (by intro z; cases z))]; exact h) ih
/-- a new list of tuples is handed back -/
def NewLT (H : Hp) (as : List (List Nat)) (Q : VK) : Prop := ∀ (r : Addr) (H' : Hp) (vs : List V), Same H H' → H r = none → H' r = some (.lst vs) → LT H' vs as → Q (.ref r) H'
theorem w_while {c : TT} {tb : TS} {D : Ends} {σ : L2.St} {H : Hp} (h : ∃ W : Nat → L2.St → Hp → Prop, (∃ m, W m σ H) ∧ ∀ m σ H, W m σ H →
  c σ H fun b H1 => if b = true then ∃ N : L2.St → Hp → Prop, (∀ σ' H', N σ' H' → ∃ m', m' < m ∧ W m' σ' H') ∧ tb { D with nx := N, ct := N, bk := D.nx } σ H1 else D.nx σ H1) : tWhile c tb D σ H := h
theorem w_dnew {σ : L2.St} {H : Hp} {Q : VK} (h : ∀ p, H p = none → Q (.ref p) (upd H p (.dK []))) : tDNewK σ H Q := h
theorem w_dput {td ty tv : TE} {D : Ends} {σ : L2.St} {H : Hp} (h : tv σ H fun v H1 => td σ H1 fun x H2 => ty σ H2 fun y H3 => ∃ a H4, x = .ref a ∧ DPut H3 a y v H4 ∧ D.nx σ H4) : sDPut td ty tv D σ H := h
theorem w_dnotin {td ty : TE} {σ : L2.St} {H : Hp} {Q : VK} (h : ty σ H fun y H1 => td σ H1 fun x H2 => ∃ a o, x = .ref a ∧ DGet H2 a y o ∧ Q (.bl (!o.isSome)) H2) : tDNotIn ty td σ H Q := h
/-- the keys of a dict of numbers -/
def DK (kvs : List (Key × V)) (S : Nat → Prop) : Prop := ∀ x : Nat, (valV kvs (Sum.inl (x : Int) : Key)).isSome = true ↔ S x
theorem DK.nil : DK [] (fun _ => False) := fun x => by simp [valV]
theorem DK.put {kvs : List (Key × V)} {S : Nat → Prop} (h : DK kvs S) (x : Nat) (v : V) : DK (putK kvs (Sum.inl (x : Int)) v) (fun y => S y ∨ y = x) := fun y => by
  rw [valV_put]
  by_cases e : y = x
  · subst e
    rw [if_pos rfl]
    exact ⟨fun _ => .inr rfl, fun _ => rfl⟩
  · rw [if_neg (fun z => e (by have := Sum.inl.inj z; omega))]
    rw [h y]
    exact ⟨fun z => .inl z, fun z => z.resolve_right e⟩
theorem DK.cong {kvs : List (Key × V)} {S S' : Nat → Prop} (h : DK kvs S) (e : ∀ x, S x ↔ S' x) : DK kvs S' := fun x => (h x).trans (e x)
theorem putK_le (c : List (Key × V)) (k : Key) (x : V) : (putK c k x).length ≤ c.length + 1 := by
  unfold putK
  split
  · rw [List.length_map]; omega
  · rw [List.length_append]; exact Nat.le_refl _
def sp_rings (K : PySem.W.Frag) (g : Gd) : Sp := fun vs H Q E => ∃ (p : Addr) (a : List Int), vs = [.ref p] ∧ SqT K H p (vI a) ∧ a.length ≤ 1000 ∧
  (SeatB a = false → E (.ref g.NoSeating) none H) ∧ (∀ n a', a = a'.map (fun (x : Nat) => (x : Int)) → IsP n a' → 1 ≤ n → n ≤ 16 → NewLT H (ringsN a') Q)
theorem len_rings (K : PySem.W.Frag) (g : Gd) (vs : List V) (H : Hp) (Q : VK) (E : XK) (h : sp_rings K g vs H Q E) : vs.length = 1 := by obtain ⟨_, _, rfl, _⟩ := h; rfl
abbrev N_rings : List Str := ["a", "found", "seen", "k", "ring", "at"]
/-- rings -/
def t_rings (K : PySem.W.Frag) (g : Gd) (E : XK) : TS :=
  (tSeq (tDrop (tCallS (sp_ask_seating K g) (WE (wE E)) (tCons (tVar 0) tNil)))
    (tSeq (tAsg (tLst tNil) (gName 1))
    (tSeq (tAsg tDNewK (gName 2))
    (tSeq (tFor (iRng1 (tCons (tCB (rLenQ K) (tCons (tVar 0) tNil)) tNil)) (gName 3) (tIfS (tB (tDNotIn (tVar 3) (tVar 2))) (tSeq (tAsg (tLst (tCons (tVar 3) tNil)) (gName 4))
    (tSeq (tAsg (tOp (rIxT K) (tVar 0) (tVar 3)) (gName 5))
    (tSeq (tWhile (tTest (tOp rNe (tVar 5) (tVar 3))) (tSeq (tDrop (tBM K "list" rAppend (tVar 4) (tCons (tVar 5) tNil)))
    (tSeq (sDPut (tVar 2) (tVar 5) (tC (.bl true)))
    (tAsg (tOp (rIxT K) (tVar 0) (tVar 5)) (gName 5)))))
    (tIfS (tTest (tOp rGtI (tCB (rLenQ K) (tCons (tVar 4) tNil)) (tC (.int 1)))) (tDrop (tBM K "list" rAppend (tVar 1) (tCons (tCB (rTupOf K) (tCons (tVar 4) tNil)) tNil))) tNext)))) tNext))
    (tRet (tVar 1))))))
theorem pure_rings {K : PySem.W.Frag} {g : Gd} (vs : List V) (H : Hp) (Q : VK) (E : XK) (h : sp_rings K g vs H Q E) : Rd1 (t_rings K g E) N_rings vs H Q := by
  obtain ⟨p, a, rfl, hp, hla, e1, k⟩ := h
  unfold t_rings
  walk_at "rd"
  refine ⟨p, a, rfl, hp, hla, fun ca => ?_, fun c => e1 c⟩
  obtain ⟨b, pb, eb, h1, h2⟩ := seatB_is ca
  have k := k _ b eb pb h1 h2
  rw [eb, ← vN_eq] at hp
  clear e1 ca
  generalize hn : a.length = n at *
  walk_at "rd"
  refine ⟨zl (Nat.zero_le _), fun f hf => ?_⟩
  have s1 := (Same.refl H).new (o := .lst []) hf
  walk_at "rd"
  refine w_dnew fun d hd => ?_
  have s2 := s1.new (o := .dK []) hd
  have hd0 : H d = none := s1.free hd
  have hfd : f ≠ d := ne_of_none upd_same hd
  walk_at "rd"
  refine len_TN (s2.tup hp) ?_
  rw [pb.len]
  walk_at "rd"
  refine w_for1 (by omega) (fun i σ H' => (∃ v r t, σ = [some (.ref p), some (.ref f), some (.ref d), v, r, t]) ∧ Same H H' ∧ (∃ vs, H' f = some (.lst vs) ∧ LT H' vs (ringsK b i)) ∧ (∃ kvs, H' d = some (.dK kvs) ∧ kvs.length ≤ i * 17 ∧ DK kvs (SeenP b i)))
    ⟨⟨_, _, _, rfl⟩, s2, ⟨[], by rw [upd_ne hfd, upd_same], .nil⟩, ⟨[], upd_same, Nat.le_refl _, fun x => ⟨fun z => by simp [valV] at z, fun ⟨q, hq, _⟩ => absurd hq (Nat.not_lt_zero q)⟩⟩⟩ ?_ ?_
  · rintro i σ H1 hi ⟨⟨v, r, t, rfl⟩, s, ⟨vs, hF, hLT⟩, ⟨kvs, hD, hkl, hDK⟩⟩
    walk_at "rd"
    refine w_dnotin ?_
    walk_at "rd"
    refine ⟨d, _, rfl, DGet.k (k := Sum.inl (i : Int)) hD, ?_⟩
    walk_at "rd"
    have hsn := seen_iff pb hi
    refine if_nb (fun c => ?_) (fun c => ?_)
    · -- not seen: the least of its ring
      have hmin : isMin b i = true := by
        cases hm : isMin b i with
        | true => rfl
        | false =>
          have := (hDK i).mpr (hsn.mpr hm)
          rw [c] at this; cases this
      obtain ⟨q1, q2, q3, q4⟩ := per_spec pb hi
      walk_at "rd"
      refine ⟨zl (by show 1 ≤ 100000; decide), fun l hl => ?_⟩
      have hl0 := s.free hl
      have s3 := s.new (o := .lst [V.int (i : Int)]) hl
      have hfl : f ≠ l := ne_of_none hF hl
      have hdl : d ≠ l := ne_of_none hD hl
      walk_at "rd"
      refine ix_TN (i := i) (s3.tup hp) (by rw [pb.len]; exact hi) rfl ?_
      walk_at "rd"
      refine w_while ⟨fun m σ H' => ∃ j, 1 ≤ j ∧ j + m = per b i ∧ σ = [some (.ref p), some (.ref f), some (.ref d), some (.int (i : Int)), some (.ref l), some (.int ((itr b j i : Nat) : Int))] ∧ Same H H' ∧ (H' f = some (.lst vs) ∧ LT H' vs (ringsK b i)) ∧
        (∃ kvs, H' d = some (.dK kvs) ∧ kvs.length ≤ i * 17 + j ∧ DK kvs (fun x => SeenP b i x ∨ ∃ u, 1 ≤ u ∧ u < j ∧ itr b u i = x)) ∧ H' l = some (.lst (vN ((List.range j).map fun u => itr b u i))), ⟨per b i - 1, 1, Nat.le_refl _, by omega, rfl, s3, ⟨by rw [upd_ne hfl]; exact hF, hLT.mono ((Same.refl H1).new hl)⟩,
          ⟨kvs, by rw [upd_ne hdl]; exact hD, by omega, hDK.cong fun x => ⟨fun z => .inl z, fun z => z.elim (fun z => z) fun ⟨u, a, b, _⟩ => by omega⟩⟩, upd_same⟩, ?_⟩
      clear hD hDK hkl hF hLT c s3 kvs
      rintro m σ H2 ⟨j, hj1, hjm, rfl, s, ⟨hF, hLT⟩, ⟨kvs, hD, hkl, hDK⟩, hL⟩
      walk_at "rd"
      refine if_nd (fun c => ?_) (fun c => ?_)
      · -- one more
        have hjp : j < per b i := by
          refine Decidable.byContradiction fun z => c ?_
          have : j = per b i := by omega
          rw [this, q1]
        refine ⟨_, fun σ' H' h => ⟨m - 1, by omega, h⟩, ?_⟩
        have hlt := itr_lt pb hi j
        have hdl2 : d ≠ l := ne_of hD hL (by intro z; cases z)
        have hfl2 : f ≠ l := hfl
        have hfd2 : f ≠ d := ne_of hF hD (by intro z; cases z)
        walk_at "rd"
        refine ⟨isL (sqL hL), ?_⟩
        walk_at "rd"
        refine app_N (a := (List.range j).map fun u => itr b u i) hL (by rw [List.length_map, List.length_range]; omega) ?_
        walk_at "sq"
        refine w_dput ?_
        walk_at "rd"
        refine ⟨d, _, rfl, DPut.k (k := Sum.inl ((itr b j i : Nat) : Int)) (by rw [upd_ne hdl2]; exact hD) (zlt (by omega)), ?_⟩
        walk_at "rd"
        have s5 := (s.up (o := .lst (vN ((List.range j).map (fun u => itr b u i) ++ [itr b j i]))) hl0).up (o := .dK (putK kvs (Sum.inl ((itr b j i : Nat) : Int)) (V.bl true))) hd0
        refine ix_TN (i := itr b j i) (s5.tup hp) (by rw [pb.len]; exact hlt) rfl ?_
        refine ⟨j + 1, by omega, by omega, rfl, s5, ⟨by rw [upd_ne hfd2, upd_ne hfl2]; exact hF, ?_⟩, ⟨_, upd_same, ?_, ?_⟩, ?_⟩
        · exact (hLT.upL hL).updD (by rw [upd_ne hdl2]; exact hD)
        · have := putK_le kvs (Sum.inl ((itr b j i : Nat) : Int)) (V.bl true); omega
        · refine (hDK.put (itr b j i) (V.bl true)).cong fun x => ⟨fun z => ?_, fun z => ?_⟩
          · rcases z with (z | ⟨u, a1, a2, a3⟩) | z
            · exact .inl z
            · exact .inr ⟨u, a1, by omega, a3⟩
            · exact .inr ⟨j, hj1, by omega, z.symm⟩
          · rcases z with z | ⟨u, a1, a2, a3⟩
            · exact .inl (.inl z)
            · by_cases e : u = j
              · exact .inr (by rw [← a3, e])
              · exact .inl (.inr ⟨u, a1, by omega, a3⟩)
        · rw [upd_ne hdl2.symm, upd_same, List.range_succ, List.map_append] <;> rfl
      · -- the ring is whole
        have hjp : j = per b i := by
          refine Decidable.byContradiction fun z => q3 j hj1 (by omega) (by have := c; omega)
        subst hjp
        have hr : H2 l = some (.lst (vN (ring b i))) := hL
        have hseen : ∀ x, (SeenP b i x ∨ ∃ u, 1 ≤ u ∧ u < per b i ∧ itr b u i = x) ↔ SeenP b (i + 1) x := fun x => by
          constructor
          · rintro (⟨q, h1, h2, h3⟩ | ⟨u, a1, a2, a3⟩)
            · exact ⟨q, by omega, h2, h3⟩
            · exact ⟨i, by omega, hmin, by rw [← a3]; exact mem_ring pb hi u, fun z => q3 u a1 a2 (by rw [a3, z])⟩
          · rintro ⟨q, h1, h2, h3, h4⟩
            by_cases e : q = i
            · subst e
              obtain ⟨u, hu, hx⟩ := ring_mem h3
              refine .inr ⟨u, ?_, hu, hx⟩
              refine Nat.pos_of_ne_zero fun z => h4 ?_
              rw [← hx, z] <;> rfl
            · exact .inl ⟨q, by omega, h2, h3, h4⟩
        walk_at "rd"
        refine len_LN (sqL hr) ?_
        walk_at "rd"
        rw [ring_len]
        refine if_d (fun c2 => ?_) (fun c2 => ?_)
        · walk_at "rd"
          refine ⟨isL (sqL hF), ?_⟩
          walk_at "rd"
          refine tup_L (sqL hr) fun t ht => ?_
          have hft : f ≠ t := ne_of_none hF ht
          have hdt : d ≠ t := ne_of_none hD ht
          walk_at "rd"
          refine app_V (xs := vs) (by rw [upd_ne hft]; exact hF) (by rw [hLT.len]; have := ringsK_len b i; omega) ?_
          have hfd2 : f ≠ d := ne_of hF hD (by intro z; cases z)
          refine ⟨⟨_, _, _, rfl⟩, (s.new ht).up hf, ⟨_, upd_same, ?_⟩, ⟨kvs, ?_, by omega, hDK.cong hseen⟩⟩
          · rw [ringsK_succ, hmin, decide_eq_true (by omega)]
            refine LT.snoc ?_ ?_
            · rw [upd_ne hft.symm, upd_same]
            · exact (hLT.mono ((Same.refl H2).new ht)).upL (by rw [upd_ne hft]; exact hF)
          · rw [upd_ne hfd2.symm, upd_ne hdt]; exact hD
        · walk_at "rd"
          refine ⟨⟨_, _, _, rfl⟩, s, ⟨vs, hF, ?_⟩, ⟨kvs, hD, by omega, hDK.cong hseen⟩⟩
          rw [ringsK_succ, decide_eq_false (by omega), Bool.and_false]
          exact (List.append_nil (ringsK b i)).symm ▸ hLT
    · -- seen
      have hmin : isMin b i = false := hsn.mp ((hDK i).mp c)
      walk_at "rd"
      refine ⟨⟨_, _, _, rfl⟩, s, ⟨vs, hF, ?_⟩, ⟨kvs, hD, by omega, hDK.cong fun x => ⟨fun ⟨q, h1, h2⟩ => ⟨q, by omega, h2⟩, fun ⟨q, h1, h2, h3⟩ => ⟨q, ?_, h2, h3⟩⟩⟩⟩
      · rw [ringsK_succ, hmin, Bool.false_and]
        exact (List.append_nil (ringsK b i)).symm ▸ hLT
      · by_cases e : q = i
        · rw [e, hmin] at h2; cases h2
        · omega
  · rintro σ H1 ⟨⟨v, r, t, rfl⟩, s, ⟨vs, hF, hLT⟩, _⟩
    walk_at "rd"
    refine k f H1 vs s hf hF ?_
    unfold ringsN
    rw [pb.len]
    exact hLT
end Shf

/-! the age of a seating, a seating done many times; law k06 -/
namespace Shf
open PySem L2
/-! ### powers -/
def pw (a : List Nat) : Nat → List Nat
  | 0 => List.range a.length
  | j + 1 => jn (pw a j) a
section
variable {n : Nat} {a : List Nat}
theorem isP_pw (h : IsP n a) : ∀ j, IsP n (pw a j)
  | 0 => by show IsP n (List.range a.length); rw [h.len]; exact isP_id n
  | j + 1 => isP_jn (isP_pw h j) h
theorem pw_get (h : IsP n a) {x : Nat} (hx : x < n) : ∀ j, (pw a j).getD x 0 = itr a j x
  | 0 => by show (List.range a.length).getD x 0 = x; rw [range_getD (by rw [h.len]; exact hx)]
  | j + 1 => by
    show (jn (pw a j) a).getD x 0 = a.getD (itr a j x) 0
    rw [jn_get (by rw [(isP_pw h j).len]; exact hx), pw_get h hx j]
theorem pw_id_iff (h : IsP n a) (j : Nat) : pw a j = List.range n ↔ ∀ x, x < n → itr a j x = x := by
  constructor
  · intro e x hx
    rw [← pw_get h hx, e, range_getD hx]
  · intro e
    refine ext_getD (by rw [(isP_pw h j).len, List.length_range]) fun x hx => ?_
    rw [(isP_pw h j).len] at hx
    rw [pw_get h hx, e x hx, range_getD hx]
theorem itr_dvd (h : IsP n a) {k : Nat} (hk : k < n) (m : Nat) : itr a m k = k ↔ per a k ∣ m := by
  obtain ⟨q1, q2, q3, q4⟩ := per_spec h hk
  constructor
  · intro e
    have e1 : itr a (m % per a k) k = k := by
      have : itr a m k = itr a (m % per a k) k := by
        conv => lhs; rw [← Nat.div_add_mod m (per a k), Nat.add_comm, itr_add, Nat.mul_comm, itr_mul h hk]
      rw [← this]; exact e
    refine Nat.dvd_of_mod_eq_zero (Decidable.byContradiction fun z => ?_)
    exact q3 (m % per a k) (by omega) (Nat.mod_lt _ q2) e1
  · rintro ⟨c, rfl⟩
    rw [Nat.mul_comm]
    exact itr_mul h hk c
/-- seats of one ring have rings of one length -/
theorem per_same (h : IsP n a) {k x : Nat} (hk : k < n) (hx : x ∈ ring a k) : per a x = per a k := by
  have hxn := ring_lt h hk hx
  have l1 := nd_sub_len (ring_nd h hxn) (m := ring a k) fun y hy => ring_trans h hk hx hy
  have l2 := nd_sub_len (ring_nd h hk) (m := ring a x) fun y hy => ring_trans h hxn (ring_symm h hk hx) hy
  rw [ring_len, ring_len] at l1 l2
  omega
theorem rings_mem {r : List Nat} {m : Nat} : r ∈ ringsK a m ↔ ∃ q, q < m ∧ isMin a q = true ∧ 1 < per a q ∧ ring a q = r := by
  unfold ringsK
  rw [List.mem_map]
  constructor
  · rintro ⟨q, hq, e⟩
    obtain ⟨h1, h2⟩ := List.mem_filter.mp hq
    rw [Bool.and_eq_true, decide_eq_true_eq] at h2
    exact ⟨q, List.mem_range.mp h1, h2.1, h2.2, e⟩
  · rintro ⟨q, h1, h2, h3, e⟩
    exact ⟨q, List.mem_filter.mpr ⟨List.mem_range.mpr h1, by rw [h2, decide_eq_true h3] <;> rfl⟩, e⟩
/-- the age: the rings' lengths' least common multiple -/
def ageK (rs : List (List Nat)) : Nat := rs.foldl (fun m r => Nat.lcm m r.length) 1
def ageN (a : List Nat) : Nat := ageK (ringsN a)
theorem ageK_snoc (rs : List (List Nat)) (r : List Nat) : ageK (rs ++ [r]) = Nat.lcm (ageK rs) r.length := by
  unfold ageK
  rw [List.foldl_append] <;> rfl
theorem foldl_lcm_dvd (m : Nat) : ∀ (rs : List (List Nat)) (c : Nat), rs.foldl (fun m r => Nat.lcm m r.length) c ∣ m ↔ c ∣ m ∧ ∀ r ∈ rs, r.length ∣ m
  | [], c => by simp
  | r :: rs, c => by
    rw [List.foldl_cons, foldl_lcm_dvd m rs]
    constructor
    · rintro ⟨h1, h2⟩
      refine ⟨Nat.dvd_trans (Nat.dvd_lcm_left _ _) h1, fun q hq => ?_⟩
      rcases List.mem_cons.mp hq with e | hq
      · rw [e]; exact Nat.dvd_trans (Nat.dvd_lcm_right _ _) h1
      · exact h2 q hq
    · rintro ⟨h1, h2⟩
      exact ⟨Nat.lcm_dvd h1 (h2 r List.mem_cons_self), fun q hq => h2 q (List.mem_cons_of_mem _ hq)⟩
theorem ageK_dvd (rs : List (List Nat)) (m : Nat) : ageK rs ∣ m ↔ ∀ r ∈ rs, r.length ∣ m := by
  unfold ageK
  rw [foldl_lcm_dvd]
  exact ⟨fun h => h.2, fun h => ⟨Nat.one_dvd m, h⟩⟩
theorem pw_age (h : IsP n a) (m : Nat) : pw a m = List.range n ↔ ageN a ∣ m := by
  rw [pw_id_iff h]
  unfold ageN
  rw [ageK_dvd]
  constructor
  · intro e r hr
    unfold ringsN at hr
    obtain ⟨q, h1, _, _, rfl⟩ := rings_mem.mp hr
    rw [h.len] at h1
    rw [ring_len]
    exact (itr_dvd h h1 m).mp (e q h1)
  · intro e x hx
    rw [itr_dvd h hx]
    obtain ⟨q, hq, hl⟩ := least_of (ring a x) (fun z => by have := ring_self h hx; rw [z] at this; cases this)
    have hqn := ring_lt h hx hq
    have hp := per_same h hx hq
    rw [← hp]
    by_cases c : 1 < per a q
    · have := e (ring a q) (rings_mem.mpr ⟨q, by rw [h.len]; exact hqn, isMin_iff.mpr fun y hy => hl y (ring_trans h hx hq hy), c, rfl⟩)
      rw [ring_len] at this
      exact this
    · have h1 := (per_spec h hqn).2.1
      have : per a q = 1 := by omega
      rw [this]
      exact Nat.one_dvd m
theorem rings_disj (h : IsP n a) : ∀ m, m ≤ n → (ringsK a m).flatten.Nodup ∧ ∀ x ∈ (ringsK a m).flatten, ∃ q, q < m ∧ isMin a q = true ∧ x ∈ ring a q
  | 0, _ => ⟨List.nodup_nil, fun x hx => by cases hx⟩
  | m + 1, hm => by
    obtain ⟨i1, i2⟩ := rings_disj h m (by omega)
    rw [ringsK_succ]
    by_cases c : (isMin a m && decide (1 < per a m)) = true
    · rw [if_pos c, List.flatten_append]
      rw [Bool.and_eq_true] at c
      have e : [ring a m].flatten = ring a m := by simp
      rw [e]
      refine ⟨List.nodup_append.mpr ⟨i1, ring_nd h (by omega), fun x hx y hy e => ?_⟩, fun x hx => ?_⟩
      · subst e
        obtain ⟨q, q1, q2, q3⟩ := i2 x hx
        have hq : q < n := by omega
        have m1 : m ∈ ring a q := ring_trans h hq q3 (ring_symm h (by omega) hy)
        have := isMin_iff.mp c.1 q (ring_symm h hq m1)
        omega
      · rcases List.mem_append.mp hx with hx | hx
        · obtain ⟨q, q1, q2, q3⟩ := i2 x hx
          exact ⟨q, by omega, q2, q3⟩
        · exact ⟨m, by omega, c.1, hx⟩
    · rw [if_neg c, List.append_nil]
      exact ⟨i1, fun x hx => by
        obtain ⟨q, q1, q2, q3⟩ := i2 x hx
        exact ⟨q, by omega, q2, q3⟩⟩
theorem rings_sum (h : IsP n a) : (ringsN a).flatten.length ≤ n := by
  obtain ⟨i1, i2⟩ := rings_disj h n (Nat.le_refl n)
  unfold ringsN
  rw [h.len]
  have := nd_sub_len (m := List.range n) i1 fun x hx => by
    obtain ⟨q, q1, _, q3⟩ := i2 x hx
    exact List.mem_range.mpr (ring_lt h q1 q3)
  rw [List.length_range] at this
  exact this
theorem len_le_pow (l : Nat) : l ≤ 2 ^ l := Nat.le_of_lt Nat.lt_two_pow_self
theorem ageK_le : ∀ (rs : List (List Nat)), ageK rs ≤ 2 ^ rs.flatten.length := fun rs => by
  have g : ∀ (rs : List (List Nat)) (c : Nat), rs.foldl (fun m r => Nat.lcm m r.length) c ≤ c * 2 ^ rs.flatten.length := fun rs => by
    induction rs with
    | nil => intro c; simp
    | cons r rs ih =>
      intro c
      rw [List.foldl_cons, List.flatten_cons, List.length_append, Nat.pow_add, ← Nat.mul_assoc]
      refine Nat.le_trans (ih _) (Nat.mul_le_mul_right _ ?_)
      exact Nat.le_trans (Nat.div_le_self _ _) (Nat.mul_le_mul_left _ (len_le_pow _))
  have := g rs 1
  rw [Nat.one_mul] at this
  exact this
theorem ageK_pos {m : Nat} (h : ∀ r ∈ ringsK a m, 0 < r.length) : 0 < ageK (ringsK a m) := by
  have g : ∀ (rs : List (List Nat)) (c : Nat), 0 < c → (∀ r ∈ rs, 0 < r.length) → 0 < rs.foldl (fun m r => Nat.lcm m r.length) c := fun rs => by
    induction rs with
    | nil => intro c hc _; exact hc
    | cons r rs ih => intro c hc hr; exact ih _ (Nat.lcm_pos hc (hr r List.mem_cons_self)) fun q hq => hr q (List.mem_cons_of_mem _ hq)
  exact g _ 1 (by decide) h
end
theorem ageN_le {n : Nat} {a : List Nat} (h : IsP n a) (hn : n ≤ 16) : ageN a ≤ 65536 := by
  have h1 := ageK_le (ringsN a)
  have h2 := rings_sum h
  have h3 : 2 ^ (ringsN a).flatten.length ≤ 2 ^ 16 := Nat.pow_le_pow_right (by decide) (by omega)
  unfold ageN
  exact Nat.le_trans h1 h3
theorem ageN_pos {a : List Nat} : 0 < ageN a := by
  refine ageK_pos fun r hr => ?_
  obtain ⟨q, _, _, h, rfl⟩ := rings_mem.mp hr
  rw [ring_len]; omega
def sp_shared (K : PySem.W.Frag) (g : Gd) : Sp := fun vs H Q _ => ∃ (x y : Nat), vs = [.int (x : Int), .int (y : Int)] ∧ Q (.int (Nat.gcd x y : Nat)) H
theorem len_shared (K : PySem.W.Frag) (g : Gd) (vs : List V) (H : Hp) (Q : VK) (E : XK) (h : sp_shared K g vs H Q E) : vs.length = 2 := by obtain ⟨_, _, rfl, _⟩ := h; rfl
abbrev N_shared : List Str := ["one", "other", "kept"]
/-- shared -/
def t_shared (K : PySem.W.Frag) (g : Gd) (E : XK) : TS :=
  (tSeq (tWhile (tTest (tOp rNe (tVar 1) (tC (.int 0)))) (tSeq (tAsg (tOp rModI (tVar 0) (tVar 1)) (gName 2))
    (tSeq (tAsg (tVar 1) (gName 0))
    (tAsg (tVar 2) (gName 1)))))
    (tRet (tVar 0)))
theorem pure_shared {K : PySem.W.Frag} {g : Gd} (vs : List V) (H : Hp) (Q : VK) (E : XK) (h : sp_shared K g vs H Q E) : Rd1 (t_shared K g E) N_shared vs H Q := by
  obtain ⟨x, y, rfl, k⟩ := h
  unfold t_shared
  walk_at "rd"
  refine w_while ⟨fun m σ H' => ∃ (x' y' : Nat) (v : Option V), m = y' ∧ σ = [some (.int (x' : Int)), some (.int (y' : Int)), v] ∧ Nat.gcd x' y' = Nat.gcd x y ∧ H' = H, ⟨y, x, y, _, rfl, rfl, rfl, rfl⟩, ?_⟩
  rintro y' σ H' ⟨x', _, v, rfl, rfl, hg, rfl⟩
  walk_at "rd"
  refine if_nd (fun c => ?_) (fun c => ?_)
  · have hy : 0 < y' := by omega
    refine ⟨_, fun σ' H' h => ⟨x' % y', Nat.mod_lt _ hy, h⟩, ?_⟩
    walk_at "rd"
    refine mod_I (by omega) ?_
    walk_at "rd"
    refine ⟨y', x' % y', _, rfl, by rw [Int.natCast_emod] <;> rfl, ?_, rfl⟩
    rw [← hg, Nat.gcd_comm y', ← Nat.gcd_rec, Nat.gcd_comm]
  · have hy : y' = 0 := by omega
    subst hy
    rw [Nat.gcd_zero_right] at hg
    walk_at "rd"
    rw [hg]
    exact k
def sp_age (K : PySem.W.Frag) (g : Gd) : Sp := fun vs H Q E => ∃ (p : Addr) (a : List Int), vs = [.ref p] ∧ SqT K H p (vI a) ∧ a.length ≤ 1000 ∧
  (SeatB a = false → E (.ref g.NoSeating) none H) ∧ (∀ n a', a = a'.map (fun (x : Nat) => (x : Int)) → IsP n a' → 1 ≤ n → n ≤ 16 → ∀ H', Same H H' → Q (.int (ageN a' : Nat)) H')
theorem len_age (K : PySem.W.Frag) (g : Gd) (vs : List V) (H : Hp) (Q : VK) (E : XK) (h : sp_age K g vs H Q E) : vs.length = 1 := by obtain ⟨_, _, rfl, _⟩ := h; rfl
abbrev N_age : List Str := ["a", "many", "ring"]
/-- age -/
def t_age (K : PySem.W.Frag) (g : Gd) (E : XK) : TS :=
  (tSeq (tAsg (tC (.int 1)) (gName 1))
    (tSeq (tFor (iList K (tCallS (sp_rings K g) (WE (wE E)) (tCons (tVar 0) tNil))) (gName 2) (tAsg (tOp rMulI (tOp rDivI (tVar 1) (tCallS (sp_shared K g) (fun _ => E0) (tCons (tVar 1) (tCons (tCB (rLenQ K) (tCons (tVar 2) tNil)) tNil)))) (tCB (rLenQ K) (tCons (tVar 2) tNil))) (gName 1)))
    (tRet (tVar 1))))
theorem lcm_div (m n : Nat) : (m : Int) / (Nat.gcd m n : Nat) * (n : Int) = (Nat.lcm m n : Nat) := by
  rw [← Int.natCast_ediv, ← Int.natCast_mul]
  congr 1
  show m / Nat.gcd m n * n = m * n / Nat.gcd m n
  obtain ⟨c, hc⟩ := Nat.gcd_dvd_left m n
  by_cases z : Nat.gcd m n = 0
  · rw [z]; simp
  · generalize Nat.gcd m n = d at hc z
    subst hc
    rw [Nat.mul_div_cancel_left _ (Nat.pos_of_ne_zero z), Nat.mul_assoc, Nat.mul_div_cancel_left _ (Nat.pos_of_ne_zero z)]
theorem flat_take (rs : List (List Nat)) (i : Nat) : (rs.take i).flatten.length ≤ rs.flatten.length := by
  have := congrArg List.length (congrArg List.flatten (List.take_append_drop i rs))
  rw [List.flatten_append, List.length_append] at this
  omega
theorem pure_age {K : PySem.W.Frag} {g : Gd} (vs : List V) (H : Hp) (Q : VK) (E : XK) (h : sp_age K g vs H Q E) : Rd1 (t_age K g E) N_age vs H Q := by
  obtain ⟨p, a, rfl, hp, hla, e1, k⟩ := h
  unfold t_age
  walk_at "rd"
  refine ⟨p, a, rfl, hp, hla, e1, fun n b eb pb h1 h2 r H1 vs s hr0 hr hLT => ?_⟩
  have k := k n b eb pb h1 h2
  have hsum := rings_sum pb
  walk_at "rd"
  refine ⟨r, rfl, ⟨_, sqL hr⟩, for_list (K := K) (a := r) (xs := vs) (fun i σ H' => (∃ v, σ = [some (.ref p), some (.int (ageK ((ringsN b).take i) : Nat)), v]) ∧ H' = H1) ⟨⟨_, rfl⟩, rfl⟩ (fun i σ H' _ z => by rw [z.2]; exact sqL hr) ?_ ?_⟩
  · rintro i v σ H' hi ⟨⟨v0, rfl⟩, rfl⟩
    obtain ⟨q, x, rfl, hx, hq⟩ := hLT.get' hi
    have hle := ageK_le ((ringsN b).take i)
    have hft := flat_take (ringsN b) i
    have hpow : 2 ^ ((ringsN b).take i).flatten.length ≤ 2 ^ 16 := Nat.pow_le_pow_right (by decide) (by omega)
    have hle : ageK ((ringsN b).take i) ≤ 65536 := Nat.le_trans hle hpow
    have hxl : 0 < x.length := by
      obtain ⟨q, _, _, h, rfl⟩ := rings_mem.mp (List.mem_of_getElem? hx)
      rw [ring_len]; omega
    have hgp : 0 < Nat.gcd (ageK ((ringsN b).take i)) x.length := Nat.gcd_pos_of_pos_right _ hxl
    have hgl : Nat.gcd (ageK ((ringsN b).take i)) x.length ≤ x.length := Nat.le_of_dvd hxl (Nat.gcd_dvd_right _ _)
    have hx16 : x.length ≤ 16 := by
      have h3 : x.length ≤ (ringsN b).flatten.length := by
        have := List.sublist_flatten_of_mem (List.mem_of_getElem? hx)
        exact this.length_le
      omega
    refine (?_ : (tAsg _ _) _ _ _)
    walk_at "rd"
    refine len_TN (sqT hq) ?_
    walk_at "rd"
    refine ⟨_, _, rfl, ?_⟩
    refine div_I (by omega) (by omega) ?_
    walk_at "rd"
    refine len_TN (sqT hq) ?_
    refine mul_I (.inr ⟨by omega, by omega⟩) ?_
    refine ⟨⟨some (.ref q), ?_⟩, rfl⟩
    rw [take_more hx, ageK_snoc, lcm_div] <;> rfl
  · rintro σ H' ⟨⟨v0, rfl⟩, rfl⟩
    rw [hLT.len, List.take_length]
    walk_at "rd"
    exact k _ s
def sp_times (K : PySem.W.Frag) (g : Gd) : Sp := fun vs H Q E => ∃ (p : Addr) (a : List Int) (m : Int), vs = [.ref p, .int m] ∧ SqT K H p (vI a) ∧ a.length ≤ 1000 ∧
  (SeatB a = false → E (.ref g.NoSeating) none H) ∧ (∀ n a', a = a'.map (fun (x : Nat) => (x : Int)) → IsP n a' → 1 ≤ n → n ≤ 16 → NewT H (pw a' (m % (ageN a' : Nat)).toNat) Q)
theorem len_times (K : PySem.W.Frag) (g : Gd) (vs : List V) (H : Hp) (Q : VK) (E : XK) (h : sp_times K g vs H Q E) : vs.length = 2 := by obtain ⟨_, _, _, rfl, _⟩ := h; rfl
abbrev N_times : List Str := ["a", "n", "many", "made", "turn"]
/-- times -/
def t_times (K : PySem.W.Frag) (g : Gd) (E : XK) : TS :=
  (tSeq (tAsg (tOp rModI (tVar 1) (tCallS (sp_age K g) (WE (wE E)) (tCons (tVar 0) tNil))) (gName 2))
    (tSeq (tAsg (tCallS (sp_rest K g) (WE (wE E)) (tCons (tCB (rLenQ K) (tCons (tVar 0) tNil)) tNil)) (gName 3))
    (tSeq (tFor (iRng1 (tCons (tVar 2) tNil)) (gName 4) (tAsg (tCallS (sp_joined K g) (fun _ => E0) (tCons (tVar 3) (tCons (tVar 0) tNil))) (gName 3)))
    (tRet (tVar 3)))))
theorem pure_times {K : PySem.W.Frag} {g : Gd} (vs : List V) (H : Hp) (Q : VK) (E : XK) (h : sp_times K g vs H Q E) : Rd1 (t_times K g E) N_times vs H Q := by
  obtain ⟨p, a, m, rfl, hp, hla, e1, k⟩ := h
  unfold t_times
  walk_at "rd"
  refine ⟨p, a, rfl, hp, hla, e1, fun n b eb pb h1 h2 H1 s1 => ?_⟩
  have k := k n b eb pb h1 h2
  rw [eb, ← vN_eq] at hp
  have hpos := ageN_pos (a := b)
  have hle := ageN_le pb h2
  refine mod_I (by omega) ?_
  walk_at "rd"
  refine len_TN (s1.tup hp) ?_
  rw [pb.len]
  walk_at "rd"
  refine ⟨_, rfl, fun _ => ?_, fun c => absurd (by omega) c⟩
  intro r H2 s2 hr0 hr
  have s2 := s1.trans s2
  have b1 := Int.emod_nonneg m (b := ((ageN b : Nat) : Int)) (by omega)
  have b2 := Int.emod_lt_of_pos m (b := ((ageN b : Nat) : Int)) (by omega)
  have em : m % ((ageN b : Nat) : Int) = (((m % ((ageN b : Nat) : Int)).toNat : Nat) : Int) := by omega
  rw [em]
  generalize (m % ((ageN b : Nat) : Int)).toNat = t at *
  walk_at "rd"
  refine w_for1 (by omega) (fun i σ H' => ∃ (q : Addr) (v : Option V), σ = [some (.ref p), some (.int m), some (.int (t : Int)), some (.ref q), v] ∧ Same H H' ∧ H q = none ∧ H' q = some (.tup (vN (pw b i)))) ⟨r, _, rfl, s2, s1.free hr0, by rw [hr]; show _ = some (HO.tup (vN (List.range b.length))); rw [pb.len] <;> rfl⟩ ?_ ?_
  · rintro i σ H' hi ⟨q, v, rfl, s, hq0, hq⟩
    have pi := isP_pw pb i
    walk_at "rd"
    refine ⟨q, p, pw b i, b, rfl, sqT hq, s.tup hp, by rw [pi.len]; omega, fun x hx => by rw [pb.len]; exact pi.lt hx, fun q2 H3 s3 hq20 hq2 => ?_⟩
    exact ⟨q2, _, rfl, s.trans s3, s.free hq20, hq2⟩
  · rintro σ H' ⟨q, v, rfl, s, hq0, hq⟩
    walk_at "rd"
    exact k q H' s hq0 hq
theorem LT.last {H : Hp} {a : List Nat} : ∀ {as : List (List Nat)} {vs : List V}, LT H vs (as ++ [a]) → ∃ vs' q, vs = vs' ++ [V.ref q] ∧ LT H vs' as ∧ H q = some (.tup (vN a))
  | [], vs, h => by
    cases h with
    | cons h1 h2 =>
      cases h2
      exact ⟨[], _, rfl, .nil, h1⟩
  | x :: as, vs, h => by
    cases h with
    | cons h1 h2 =>
      obtain ⟨vs', q, e, h3, h4⟩ := LT.last h2
      exact ⟨_ :: vs', q, by rw [e] <;> rfl, .cons h1 h3, h4⟩
theorem ix_lastV {K : PySem.W.Frag} {H : Hp} {Q : VK} {p : Addr} {xs : List V} {v : V} {z : Int} (h : SqL K H p (xs ++ [v])) (e : z = -1) (q : Q v H) : rIxL K (.ref p) (.int z) H Q := by
  subst e
  exact ⟨p, _, _, _, rfl, rfl, h, atI_last _ _, q⟩
/-- rings of seven, five and four under drawn names -/
def rowR : List Nat := [1, 2, 3, 4, 5, 6, 0, 8, 9, 10, 11, 7, 13, 14, 15, 12]
def mixSt (o : List Nat) (k : Nat) : List Nat := (List.range k).foldl (fun L i => L.set (o.getD i 0) (o.getD (rowR.getD i 0) 0)) (List.range 16)
theorem mixSt_succ (o : List Nat) (k : Nat) : mixSt o (k + 1) = (mixSt o k).set (o.getD k 0) (o.getD (rowR.getD k 0) 0) := by
  unfold mixSt
  rw [List.range_succ (n := k), List.foldl_append] <;> rfl
theorem mixSt_len (o : List Nat) : ∀ k, (mixSt o k).length = 16
  | 0 => List.length_range
  | k + 1 => by rw [mixSt_succ, List.length_set, mixSt_len o k]
theorem mixSt_get {o : List Nat} (h : IsP 16 o) : ∀ k, k ≤ 16 → ∀ i, i < k → (mixSt o k).getD (o.getD i 0) 0 = o.getD (rowR.getD i 0) 0
  | 0, _, i, hi => absurd hi (Nat.not_lt_zero i)
  | k + 1, hk, i, hi => by
    have hka : k < o.length := by rw [h.len]; omega
    rw [mixSt_succ, List.getD_eq_getElem?_getD]
    by_cases e : i = k
    · subst e
      rw [List.getElem?_set_self (by rw [mixSt_len]; exact h.getD_lt (by omega))] <;> rfl
    · have hne : o.getD k 0 ≠ o.getD i 0 := fun z => e (nd_getD h.nd (by omega) hka z.symm)
      rw [List.getElem?_set_ne hne, ← List.getD_eq_getElem?_getD]
      exact mixSt_get h k (by omega) i (by omega)
theorem isP_rowR : IsP 16 rowR := isP_of_all rfl (by decide)
theorem isP_mix {o : List Nat} (h : IsP 16 o) : IsP 16 (mixSt o 16) := by
  refine isP_of_all (mixSt_len o 16) fun x hx => ?_
  obtain ⟨j, hj, e⟩ := isP_get_of h hx
  obtain ⟨i, hi, e2⟩ := isP_get_of isP_rowR hj
  have g := mixSt_get h 16 (Nat.le_refl _) i hi
  rw [e2, e] at g
  have m := List.mem_of_getElem? (getD_at (a := mixSt o 16) (i := o.getD i 0) (by rw [mixSt_len]; exact h.getD_lt hi))
  rw [g] at m
  exact m
abbrev N_law_k06 : List Str := ["script", "size", "one", "order", "row", "left", "k", "many", "calm", "turns", "found"]
/-- law -/
def t_law_k06 (K : PySem.W.Frag) (g : Gd) (E : XK) : TS :=
  (tSeq (tAsg (tOp rAddI (tC (.int 1)) (tOp rModI (tCallS (sp_L_cell_at K g) (fun _ => E0) (tCons (tVar 0) (tCons (tC (.int 0)) tNil))) (tC (.int 16)))) (gName 1))
    (tSeq (tAsg (tCallS (sp_L_seating K g) (fun _ => E0) (tCons (tCallS (sp_L_cell_at K g) (fun _ => E0) (tCons (tVar 0) (tCons (tC (.int 1)) tNil))) (tCons (tVar 1) tNil))) (gName 2))
    (tSeq (tIfS (tTest (tOp rGtI (tVar 1) (tC (.int 6)))) (tAsg (tCallS (sp_L_far K g) (fun _ => E0) (tCons (tCallS (sp_L_cell_at K g) (fun _ => E0) (tCons (tVar 0) (tCons (tC (.int 1)) tNil))) (tCons (tVar 1) tNil))) (gName 2)) tNext)
    (tSeq (tIfS (tTest (tOp rEq (tOp rModI (tOp rDivI (tCallS (sp_L_cell_at K g) (fun _ => E0) (tCons (tVar 0) (tCons (tC (.int 0)) tNil))) (tC (.int 16))) (tC (.int 4))) (tC (.int 1)))) (tSeq (tAsg (tC (.int 16)) (gName 1))
    (tSeq (tAsg (tCallS (sp_L_far K g) (fun _ => E0) (tCons (tCallS (sp_L_cell_at K g) (fun _ => E0) (tCons (tVar 0) (tCons (tC (.int 1)) tNil))) (tCons (tVar 1) tNil))) (gName 3))
    (tSeq (tAsg (tLst (tCons (tC (.int 1)) (tCons (tC (.int 2)) (tCons (tC (.int 3)) (tCons (tC (.int 4)) (tCons (tC (.int 5)) (tCons (tC (.int 6)) (tCons (tC (.int 0)) (tCons (tC (.int 8)) (tCons (tC (.int 9)) (tCons (tC (.int 10)) (tCons (tC (.int 11)) (tCons (tC (.int 7)) (tCons (tC (.int 13)) (tCons (tC (.int 14)) (tCons (tC (.int 15)) (tCons (tC (.int 12)) tNil))))))))))))))))) (gName 4))
    (tSeq (tAsg (tLstRg (tRg1 (tVar 1))) (gName 5))
    (tSeq (tFor (iRng1 (tCons (tVar 1) tNil)) (gName 6) (tAsg (tOp (rIxT K) (tVar 3) (tOp (rIxL K) (tVar 4) (tVar 6))) (gSub (tVar 5) (tOp (rIxT K) (tVar 3) (tVar 6)) rSetL)))
    (tAsg (tCB (rTupOf K) (tCons (tVar 5) tNil)) (gName 2))))))) tNext)
    (tSeq (tAsg (tOp rSubI (tOp rModI (tCallS (sp_L_cell_at K g) (fun _ => E0) (tCons (tVar 0) (tCons (tC (.int 2)) tNil))) (tC (.int 19))) (tC (.int 9))) (gName 7))
    (tSeq (tIfS (tTest (tOp rEq (tOp rModI (tOp rDivI (tCallS (sp_L_cell_at K g) (fun _ => E0) (tCons (tVar 0) (tCons (tC (.int 2)) tNil))) (tC (.int 19))) (tC (.int 3))) (tC (.int 1)))) (tAsg (tOp rSubI (tOp rModI (tCallS (sp_L_cell_at K g) (fun _ => E0) (tCons (tVar 0) (tCons (tC (.int 3)) tNil))) (tOp rPowI (tC (.int 10)) (tC (.int 59)))) (tOp rPowI (tC (.int 10)) (tC (.int 58)))) (gName 7)) tNext)
    (tSeq (tAsg (tTupRg (tRg1 (tVar 1))) (gName 8))
    (tSeq (tAsg (tLst (tCons (tVar 8) (tCons (tVar 2) tNil))) (gName 9))
    (tSeq (tWhile (tTest (tOp (rNeD K) (tOp (rIxL K) (tVar 9) (tUn (rU fun i => .int (-i)) (tC (.int 1)))) (tVar 8))) (tDrop (tBM K "list" rAppend (tVar 9) (tCons (tCallS (sp_L_joined K g) (fun _ => E0) (tCons (tOp (rIxL K) (tVar 9) (tUn (rU fun i => .int (-i)) (tC (.int 1)))) (tCons (tVar 2) tNil))) tNil))))
    (tSeq (tAsg (tCallS (sp_age K g) (WE (wE E)) (tCons (tVar 2) tNil)) (gName 10))
    (tSeq (tIfS (tOr (tNot (tB (tCallS (sp_L_whole K g) (fun _ => E0) (tCons (tVar 10) tNil)))) (tTest (tOp rNe (tVar 10) (tOp rSubI (tCB (rLenQ K) (tCons (tVar 9) tNil)) (tC (.int 1)))))) (tRet (tC (.bl false))) tNext)
    (tRet (tCallS (sp_L_same K g) (fun _ => E0) (tCons (tCallS (sp_times K g) (WE (wE E)) (tCons (tVar 2) (tCons (tVar 7) tNil))) (tCons (tOp (rIxL K) (tVar 9) (tOp rModI (tVar 7) (tOp rSubI (tCB (rLenQ K) (tCons (tVar 9) tNil)) (tC (.int 1))))) tNil)))))))))))))))
theorem pure_law_k06 {K : PySem.W.Frag} {g : Gd} (vs : List V) (H : Hp) (Q : VK) (E : XK) (h : sp_law K vs H Q E) : Rd1 (t_law_k06 K g E) N_law_k06 vs H Q := by
  obtain ⟨a, ns, rfl, hS, _, k⟩ := h
  unfold t_law_k06
  walk_at "rd"
  refine ⟨a, ns, 0, rfl, hS, ?_⟩
  walk_at "rd"
  refine mod_I (by decide) ?_
  obtain ⟨n, hn, h1, h2⟩ := size16 (ns.getD 0 0)
  walk_at "rd"
  rw [hn]
  refine ⟨a, ns, 1, rfl, hS, ?_⟩
  walk_at "rd"
  refine ⟨_, n, rfl, by omega, fun p H1 s1 _ hp => ?_⟩
  walk_at "re"
  walk_at "sq"
  refine w_join (t := tIfS _ _ _) (fun σ H' => ∃ p x, σ = [some (.ref a), some (.int (n : Int)), some (.ref p), none, none, none, none, none, none, none, none] ∧ H' p = some (.tup (vN x)) ∧ IsP n x ∧ Same H H') ?_ fun key => ?_
  · rintro σ H' ⟨p, x, rfl, hp, px, s⟩
    walk_at "sq"
    refine w_join (t := tIfS _ _ _) (fun σ H' => ∃ (n : Nat) (p : Addr) (x : List Nat) (v3 v4 v5 v6 : Option V), σ = [some (.ref a), some (.int (n : Int)), some (.ref p), v3, v4, v5, v6, none, none, none, none] ∧ 1 ≤ n ∧ n ≤ 16 ∧ H' p = some (.tup (vN x)) ∧ IsP n x ∧ Same H H') ?_ fun key => ?_
    · clear hp px s h1 h2 hn
      rintro σ H2 ⟨n, p, x, v3, v4, v5, v6, rfl, h1, h2, hp, px, s⟩
      walk_at "rd"
      refine ⟨a, ns, 2, rfl, s.seq hS, ?_⟩
      walk_at "rd"
      refine mod_I (by decide) ?_
      walk_at "re"
      walk_at "sq"
      refine w_join (t := tIfS _ _ _) (fun σ H' => ∃ m : Int, σ = [some (.ref a), some (.int (n : Int)), some (.ref p), v3, v4, v5, v6, some (.int m), none, none, none] ∧ H' p = some (.tup (vN x))) ?_ fun key => ?_
      · clear hp
        rintro σ H3 ⟨m, rfl, hp⟩
        have hpI : ∀ {H'}, H' p = some (.tup (vN x)) → SqT K H' p (vI (x.map fun (x : Nat) => (x : Int))) := fun h => by rw [← vN_eq]; exact sqT h
        have hb := seatB_N px h1 h2
        have hxl : (x.map fun (x : Nat) => (x : Int)).length ≤ 1000 := by rw [List.length_map, px.len]; omega
        have hpos := ageN_pos (a := x)
        have hle := ageN_le px h2
        walk_at "rd"
        refine ⟨rgOk_N (by omega), fun c hc => ?_⟩
        rw [rgV_N]
        have hp := (Same.refl H3).new (o := .tup (vN (List.range n))) hc _ _ hp
        have hcT : (upd H3 c (.tup (vN (List.range n)))) c = some (.tup (vN (List.range n))) := upd_same
        generalize upd H3 c (.tup (vN (List.range n))) = H4 at hp hcT ⊢
        walk_at "rd"
        refine ⟨zl (by show 2 ≤ 100000; decide), fun l hl => ?_⟩
        have s5 := (Same.refl H4).new (o := .lst [.ref c, .ref p]) hl
        have p0 : pw x 0 = List.range n := by show List.range x.length = _; rw [px.len]
        have p1 : pw x 1 = x := by
          show jn (pw x 0) x = x
          rw [p0, ← px.len, id_jn]
        walk_at "rd"
        refine w_while ⟨fun m' σ H' => ∃ j vs, j + 1 + m' = ageN x ∧ σ = [some (.ref a), some (.int (n : Int)), some (.ref p), v3, v4, v5, v6, some (.int m), some (.ref c), some (.ref l), none] ∧ Same H4 H' ∧ H' l = some (.lst vs) ∧ LT H' vs ((List.range (j + 2)).map (pw x)) ∧ (∀ q, 1 ≤ q → q < j + 1 → pw x q ≠ List.range n),
          ⟨ageN x - 1, 0, [.ref c, .ref p], by omega, rfl, s5, upd_same, ?_, fun q a b => by omega⟩, ?_⟩
        · show LT _ _ [pw x 0, pw x 1]
          rw [p0, p1]
          exact .cons (s5 _ _ hcT) (.cons (s5 _ _ hp) .nil)
        · rintro m' σ H5 ⟨j, vs, hj, rfl, s6, hL, hLT, hno⟩
          have hLT' := hLT
          rw [rangeS] at hLT'
          obtain ⟨vs', q, rfl, hLT1, hq⟩ := LT.last hLT'
          have pj := isP_pw px (j + 1)
          walk_at "rd"
          refine ix_lastV (sqL hL) rfl ?_
          walk_at "rd"
          refine ne_TN (sqT hq) (sqT (s6 _ _ hcT)) ?_
          walk_at "rd"
          refine if_nd (fun c => ?_) (fun c => ?_)
          · have hja : j + 1 < ageN x := by
              refine Decidable.byContradiction fun z => c ?_
              rw [pw_age px]
              have : j + 1 = ageN x := by omega
              rw [this]
              exact Nat.dvd_refl _
            refine ⟨_, fun σ' H' h => ⟨m' - 1, by omega, h⟩, ?_⟩
            walk_at "rd"
            refine ⟨isL (sqL hL), ?_⟩
            walk_at "rd"
            refine ix_lastV (sqL hL) rfl ?_
            walk_at "rd"
            refine ⟨q, p, _, x, rfl, sqT hq, sqT (s6 _ _ hp), by rw [pj.len]; omega, fun y hy => by rw [px.len]; exact pj.lt hy, fun q2 H6 s7 hq20 hq2 => ?_⟩
            have hlen := hLT.len
            rw [List.length_map, List.length_range] at hlen
            walk_at "rd"
            refine app_V (s7 _ _ hL) (by rw [hlen]; omega) ?_
            refine ⟨j + 1, _, by omega, rfl, (s6.trans s7).up hl, upd_same, ?_, fun q a b => ?_⟩
            · rw [rangeS _ (j + 2)]
              refine LT.upL (s7 _ _ hL) ?_
              exact (hLT.mono s7).snoc hq2
            · by_cases e : q = j + 1
              · rw [e]; exact c
              · exact hno q a (by omega)
          · -- the age is come to
            have hja : j + 1 = ageN x := by
              have hd := (pw_age px (j + 1)).mp c
              have := Nat.le_of_dvd (by omega) hd
              omega
            have hlen := hLT.len
            rw [List.length_map, List.length_range] at hlen
            walk_at "rd"
            refine ⟨p, _, rfl, hpI (s6 _ _ hp), hxl, fun c => by (rw [hb] at c; cases c), fun m2 x' ex _ _ _ H6 s7 => ?_⟩
            rw [← vInj.mp ex]
            walk_at "rd"
            refine ⟨_, rfl, ?_⟩
            walk_at "rd"
            refine if_nb (fun c => by cases c) fun _ => ?_
            walk_at "rd"
            refine len_L (sqL (s7 _ _ hL)) ?_
            rw [hlen]
            walk_at "rd"
            have e3 : ((j + 2 : Nat) : Int) - 1 = ((ageN x : Nat) : Int) := by omega
            rw [e3, decide_eq_true rfl]
            walk_at "rd"
            refine if_nb (fun c => by cases c) fun _ => ?_
            walk_at "rd"
            refine ⟨p, _, m, rfl, hpI (s7 _ _ (s6 _ _ hp)), hxl, fun c => by (rw [hb] at c; cases c), fun m2 x' ex _ _ _ r H7 s8 hr0 hr => ?_⟩
            rw [← vInj.mp ex] at hr
            have b1 := Int.emod_nonneg m (b := ((ageN x : Nat) : Int)) (by omega)
            have b2 := Int.emod_lt_of_pos m (b := ((ageN x : Nat) : Int)) (by omega)
            have em : m % ((ageN x : Nat) : Int) = (((m % ((ageN x : Nat) : Int)).toNat : Nat) : Int) := by omega
            walk_at "rd"
            refine len_L (sqL (s8 _ _ (s7 _ _ hL))) ?_
            rw [hlen]
            walk_at "rd"
            rw [e3]
            refine mod_I (by omega) ?_
            generalize (m % ((ageN x : Nat) : Int)).toNat = t at em b1 b2 hr
            have hx : ((List.range (j + 2)).map (pw x))[t]? = some (pw x t) := by
              rw [List.getElem?_map, List.getElem?_range (by omega)] <;> rfl
            obtain ⟨q2, e2, hq2⟩ := hLT.get hx
            refine ix_L (i := t) (sqL (s8 _ _ (s7 _ _ hL))) e2 em ?_
            walk_at "rd"
            refine ⟨r, q2, _, _, rfl, hr, sqT (s8 _ _ (s7 _ _ hq2)), ?_⟩
            rw [decide_eq_true rfl]
            exact k _
      · walk_at "rd"
        refine ⟨a, ns, 2, rfl, s.seq hS, ?_⟩
        walk_at "rd"
        refine div_I (by decide) (by decide) ?_
        walk_at "rd"
        refine mod_I (by decide) ?_
        walk_at "rd"
        refine if_d (fun c => ?_) (fun c => key _ _ ⟨_, rfl, hp⟩)
        walk_at "rd"
        refine ⟨a, ns, 3, rfl, s.seq hS, ?_⟩
        walk_at "rd"
        refine pow_10 (n := 59) (by decide) ?_
        refine mod_I (by decide) ?_
        walk_at "rd"
        refine pow_10 (n := 58) (by decide) ?_
        walk_at "ex"
        exact key _ _ ⟨_, rfl, hp⟩
    · walk_at "rd"
      refine ⟨a, ns, 0, rfl, s.seq hS, ?_⟩
      walk_at "rd"
      refine div_I (by decide) (by decide) ?_
      walk_at "rd"
      refine mod_I (by decide) ?_
      walk_at "rd"
      refine if_d (fun c => ?_) (fun c => key _ _ ⟨n, p, x, _, _, _, _, rfl, h1, h2, hp, px, s⟩)
      walk_at "rd"
      refine ⟨a, ns, 1, rfl, s.seq hS, ?_⟩
      walk_at "rd"
      refine ⟨_, 16, rfl, by omega, fun o H3 s3 _ ho => ?_⟩
      have s3 := s.trans s3
      have po := isP_far (ns.getD 1 0) 16
      generalize farN (ns.getD 1 0) 16 = order at ho po
      walk_at "rd"
      refine ⟨zl (by show 16 ≤ 100000; decide), fun r hr => ?_⟩
      have s4 := s3.new (o := .lst (vN rowR)) hr
      have ho4 := (Same.refl H3).new (o := .lst (vN rowR)) hr _ _ ho
      have hr4 : (upd H3 r (.lst (vN rowR))) r = some (.lst (vN rowR)) := upd_same
      have eR : upd H3 r (HO.lst [V.int 1, V.int 2, V.int 3, V.int 4, V.int 5, V.int 6, V.int 0, V.int 8, V.int 9, V.int 10, V.int 11, V.int 7, V.int 13, V.int 14, V.int 15, V.int 12]) = upd H3 r (.lst (vN rowR)) := rfl
      rw [eR]
      generalize upd H3 r (.lst (vN rowR)) = H4 at s4 ho4 hr4 ⊢
      walk_at "rd"
      refine ⟨rgOk_N (n := 16) (by omega), fun l hl => ?_⟩
      rw [show rgV 0 16 = vN (List.range 16) from rgV_N 16]
      have hl0 := s4.free hl
      have hlr : r ≠ l := ne_of_none hr4 hl
      have hlo : o ≠ l := ne_of_none ho4 hl
      have s5 := s4.new (o := .lst (vN (List.range 16))) hl
      walk_at "rd"
      refine w_for1 (n := 16) (by decide) (fun i σ H' => (∃ v, σ = [some (.ref a), some (.int (16 : Int)), some (.ref p), some (.ref o), some (.ref r), some (.ref l), v, none, none, none, none]) ∧ Same H H' ∧ H' o = some (.tup (vN order)) ∧ H' r = some (.lst (vN rowR)) ∧ H' l = some (.lst (vN (mixSt order i)))) ⟨⟨_, rfl⟩, s5, by rw [upd_ne hlo]; exact ho4, by rw [upd_ne hlr]; exact hr4, upd_same⟩ ?_ ?_
      · clear hr4 ho4 s4 s5
        rintro i σ H' hi ⟨⟨v, rfl⟩, s, ho, hr, hL⟩
        walk_at "rd"
        refine ix_LN (i := i) (sqL hr) hi rfl ?_
        refine ix_TN (i := rowR.getD i 0) (sqT ho) (by rw [po.len]; exact isP_rowR.getD_lt hi) rfl ?_
        walk_at "rd"
        refine ix_TN (i := i) (sqT ho) (by rw [po.len]; exact hi) rfl ?_
        refine set_N (i := order.getD i 0) hL (by rw [mixSt_len]; exact po.getD_lt hi) rfl ?_
        exact ⟨⟨_, rfl⟩, s.up hl0, by rw [upd_ne hlo]; exact ho, by rw [upd_ne hlr]; exact hr, by rw [upd_same, mixSt_succ]⟩
      · clear hr4 ho4 s4 s5
        rintro σ H' ⟨⟨v, rfl⟩, s, ho, hr, hL⟩
        walk_at "rd"
        refine tup_L (sqL hL) fun q hq => ?_
        exact key _ _ ⟨16, q, _, _, _, _, _, rfl, by decide, by decide, upd_same, isP_mix po, s.new hq⟩
  · walk_at "rd"
    refine if_d (fun c => ?_) (fun c => key _ _ ⟨p, _, rfl, hp, isP_seat _ _, s1⟩)
    walk_at "rd"
    refine ⟨a, ns, 1, rfl, s1.seq hS, ?_⟩
    walk_at "rd"
    refine ⟨_, n, rfl, by omega, fun p H3 s3 _ hp => ?_⟩
    exact key _ _ ⟨p, _, rfl, hp, isP_far _ _, s1.trans s3⟩
end Shf

namespace Shf
open PySem L2
def top (i : Nat) : Stmt := PySem.Challenge.pw_shiftroom_k06_many_times.main.body.getD i (.Pass ⟨0, 0, 0, 0⟩)
abbrev s_L_cell_at : Stmt := top 17
abbrev s_L_far : Stmt := top 21
abbrev s_L_joined : Stmt := top 19
abbrev s_L_whole : Stmt := top 18
abbrev s_L_same : Stmt := top 22
abbrev s_L_seating : Stmt := top 20
abbrev s_is_seating : Stmt := top 6
abbrev s_ask_seating : Stmt := top 8
abbrev s_rings : Stmt := top 12
abbrev s_shared : Stmt := top 13
abbrev s_age : Stmt := top 14
abbrev s_joined : Stmt := top 9
abbrev s_ask_size : Stmt := top 7
abbrev s_rest : Stmt := top 10
abbrev s_times : Stmt := top 15
abbrev s_law_k06 : Stmt := top 23
structure Txt (K : PySem.W.Frag) (mg : Str → Option Value) (g : Gd) : Prop where
  z_bool : mg "bool" = none
  z_int : mg "int" = none
  z_isinstance : mg "isinstance" = none
  z_len : mg "len" = none
  z_list : mg "list" = none
  z_range : mg "range" = none
  z_tuple : mg "tuple" = none
  c_MOST : ∃ t, mg "MOST" = some (.int 16 t)
  g_NoSeating : mg "NoSeating" = some (.ref g.NoSeating)
  g_NoSize : mg "NoSize" = some (.ref g.NoSize)
  x_NoSeating : ExB K mg "NoSeating" g.NoSeating
  x_NoSize : ExB K mg "NoSize" g.NoSize
section
variable {P : Program} {w : World} {K : PySem.W.Frag} {mg : Str → Option Value} {base : Heap} {g : Gd}
theorem sc_L_cell_at : FnScope N_L_cell_at ["script", "k"] (defScope s_L_cell_at) := ⟨rfl, rfl, rfl, by decide +kernel, rfl, by decide +kernel, by decide +kernel⟩
theorem ok_L_cell_at {f : Addr} {fd : FuncData} (T : Txt K mg g) (F : Fun K "_law_cell_at" "_law_cell_at" s_L_cell_at f fd)  : FnOk P w K mg base (L2.CX P w) 1 f fd ["script", "k"] (sp_L_cell_at K g) := by
  refine F.okX sc_L_cell_at (fun vs H Q E h => len_L_cell_at K g vs H Q E h) (fun cdv A outer s H vs Q E hr h => ⟨t_L_cell_at K g E, ?_, pure_L_cell_at  vs H Q E h⟩)
  have hu := hu_of hr
  have tkE : Takes (cxOf (L2.CX P w) P w K mg base N_L_cell_at "_law_cell_at" (defScope s_L_cell_at) f cdv A outer s H E) (wE E) := takes_of rfl rfl rfl rfl
  exact (pss_cons (ps_if (pt_cmpR op_lt (pv 1) (pe_callB call_len_seq (by rfl) T.z_len PySem.boot_len (pa_cons (pv 0) pa_nil)) (nomark _)) (pss_one (ps_ret (pe_ix ix_list (pv 0) (pv 1) (fun _ _ => rfl)))) pss_nil)
    (pss_one (ps_ret pe_int)))
theorem sc_L_far : FnScope N_L_far ["cell", "size"] (defScope s_L_far) := ⟨rfl, rfl, rfl, by decide +kernel, rfl, by decide +kernel, by decide +kernel⟩
theorem ok_L_far {f : Addr} {fd : FuncData} (T : Txt K mg g) (F : Fun K "_law_far" "_law_far" s_L_far f fd)  : FnOk P w K mg base (L2.CX P w) 1 f fd ["cell", "size"] (sp_L_far K g) := by
  refine F.okX sc_L_far (fun vs H Q E h => len_L_far K g vs H Q E h) (fun cdv A outer s H vs Q E hr h => ⟨t_L_far K g E, ?_, pure_L_far  vs H Q E h⟩)
  have hu := hu_of hr
  have tkE : Takes (cxOf (L2.CX P w) P w K mg base N_L_far "_law_far" (defScope s_L_far) f cdv A outer s H E) (wE E) := takes_of rfl rfl rfl rfl
  exact (pss_cons (ps_set (i := 2) sc_L_far.nd rfl (Or.inl rfl) (pe_listRg rfl (by rfl) T.z_list (prg_1 (by rfl) T.z_range (pv 1))))
    (pss_cons (ps_set (i := 3) sc_L_far.nd rfl (Or.inl rfl) (pe_lst pa_nil))
    (pss_cons (ps_for (passes_of rfl) rfl (pi_range1 (by rfl) T.z_range (pa_cons (pv 1) pa_nil)) (pg_name (i := 4) sc_L_far.nd rfl (Or.inl rfl)) (pss_cons (ps_set (i := 0) sc_L_far.nd rfl (Or.inl rfl) (pe_op op_modN (pe_op op_add (pe_op op_mul (pv 0) pe_int) pe_int) pe_int))
    (pss_one (ps_expr (pe_bm PySem.F.plainAttrs_list PySem.F.slot_list_append PySem.F.type_list_append mt_append (pv 3) (pa_cons (pe_bm PySem.F.plainAttrs_list PySem.F.slot_list_pop PySem.F.type_list_pop mt_popAt (pv 2) (pa_cons (pe_op op_modN (pv 0) (pe_op op_sub (pv 1) (pv 4))) pa_nil)) pa_nil))))))
    (pss_one (ps_ret (pe_callTy call_tuple_of (by rfl) T.z_tuple (by decide +kernel) (pa_cons (pv 3) pa_nil)))))))
theorem sc_L_joined : FnScope N_L_joined ["a", "b"] (defScope s_L_joined) := ⟨rfl, rfl, rfl, by decide +kernel, rfl, by decide +kernel, by decide +kernel⟩
theorem ok_L_joined {f : Addr} {fd : FuncData} (T : Txt K mg g) (F : Fun K "_law_joined" "_law_joined" s_L_joined f fd)  : FnOk P w K mg base (L2.CX P w) 1 f fd ["a", "b"] (sp_L_joined K g) := by
  refine F.okX sc_L_joined (fun vs H Q E h => len_L_joined K g vs H Q E h) (fun cdv A outer s H vs Q E hr h => ⟨t_L_joined K g E, ?_, pure_L_joined  vs H Q E h⟩)
  have hu := hu_of hr
  have tkE : Takes (cxOf (L2.CX P w) P w K mg base N_L_joined "_law_joined" (defScope s_L_joined) f cdv A outer s H E) (wE E) := takes_of rfl rfl rfl rfl
  exact (pss_one (ps_ret (pe_callTy call_tuple_of (by rfl) T.z_tuple (by decide +kernel) (pa_cons (pe_lc (own := [("k", 2)]) (g := gName 2) rfl sc_L_joined.nd (pi_tup (pv 0)) (blkOk_by (own := [("k", 2)]) (N := N_L_joined) (sc := defScope s_L_joined) (by decide +kernel)) (fun _ _ _ _ _ => pg_name (i := 2) sc_L_joined.nd rfl (Or.inl rfl)) (fun _ _ _ _ _ => pts_nil) (fun _ _ _ _ _ => (pe_ix ix_tup (pv 1) (pv 2) (fun _ _ => rfl)))) pa_nil))))
theorem sc_L_whole : FnScope N_L_whole ["found"] (defScope s_L_whole) := ⟨rfl, rfl, rfl, by decide +kernel, rfl, by decide +kernel, by decide +kernel⟩
theorem ok_L_whole {f : Addr} {fd : FuncData} (T : Txt K mg g) (F : Fun K "_law_whole" "_law_whole" s_L_whole f fd)  : FnOk P w K mg base (L2.CX P w) 1 f fd ["found"] (sp_L_whole K g) := by
  refine F.okX sc_L_whole (fun vs H Q E h => len_L_whole K g vs H Q E h) (fun cdv A outer s H vs Q E hr h => ⟨t_L_whole K g E, ?_, pure_L_whole  vs H Q E h⟩)
  have hu := hu_of hr
  have tkE : Takes (cxOf (L2.CX P w) P w K mg base N_L_whole "_law_whole" (defScope s_L_whole) f cdv A outer s H E) (wE E) := takes_of rfl rfl rfl rfl
  exact (pss_one (ps_ret (pe_and (pe_callB call_isi (by rfl) T.z_isinstance (by decide +kernel) (pa_cons (pv 0) (pa_cons (pe_bltn (by rfl) T.z_int (by decide +kernel) rfl) pa_nil))) (pe_one (pe_not (pe_callB call_isi (by rfl) T.z_isinstance (by decide +kernel) (pa_cons (pv 0) (pa_cons (pe_bltn (by rfl) T.z_bool (by decide +kernel) rfl) pa_nil))))))))
theorem sc_L_same : FnScope N_L_same ["found", "due"] (defScope s_L_same) := ⟨rfl, rfl, rfl, by decide +kernel, rfl, by decide +kernel, by decide +kernel⟩
theorem ok_L_same {f : Addr} {fd : FuncData} (T : Txt K mg g) (F : Fun K "_law_same" "_law_same" s_L_same f fd) (c_L_whole : Cal P w K mg base 1 "_law_whole" ["found"] (sp_L_whole K g)) : FnOk P w K mg base (L2.CX P w) 2 f fd ["found", "due"] (sp_L_same K g) := by
  refine F.okX sc_L_same (fun vs H Q E h => len_L_same K g vs H Q E h) (fun cdv A outer s H vs Q E hr h => ⟨t_L_same K g E, ?_, pure_L_same  vs H Q E h⟩)
  have hu := hu_of hr
  have tkE : Takes (cxOf (L2.CX P w) P w K mg base N_L_same "_law_same" (defScope s_L_same) f cdv A outer s H E) (wE E) := takes_of rfl rfl rfl rfl
  exact (pss_cons (ps_if (PW.pt (pw_or (pt_not (pt_val (pe_callB call_isi (by rfl) T.z_isinstance (by decide +kernel) (pa_cons (pv 0) (pa_cons (pe_bltn (by rfl) T.z_tuple (by decide +kernel) rfl) pa_nil))))) (pw_or1 (pt_cmpR op_ne (pe_callB call_len_seq (by rfl) T.z_len PySem.boot_len (pa_cons (pv 0) pa_nil)) (pe_callB call_len_seq (by rfl) T.z_len PySem.boot_len (pa_cons (pv 1) pa_nil)) (nomark _))))) (pss_one (ps_ret pe_bl)) pss_nil)
    (pss_cons (ps_for (passes_of rfl) rfl (pi_tup (pv 0)) (pg_name (i := 2) sc_L_same.nd rfl (Or.inl rfl)) (pss_one (ps_if (pt_not (pt_val (pe_cal c_L_whole (hr.mono (by decide)) rfl (fun σ => passE0 σ) (pa_cons (pv 2) pa_nil)))) (pss_one (ps_ret pe_bl)) pss_nil)))
    (pss_one (ps_ret (pe_cmpR (op_eqD hr.units) (pv 0) (pv 1) (nomark _))))))
theorem sc_L_seating : FnScope N_L_seating ["cell", "size"] (defScope s_L_seating) := ⟨rfl, rfl, rfl, by decide +kernel, rfl, by decide +kernel, by decide +kernel⟩
theorem ok_L_seating {f : Addr} {fd : FuncData} (T : Txt K mg g) (F : Fun K "_law_seating" "_law_seating" s_L_seating f fd)  : FnOk P w K mg base (L2.CX P w) 1 f fd ["cell", "size"] (sp_L_seating K g) := by
  refine F.okX sc_L_seating (fun vs H Q E h => len_L_seating K g vs H Q E h) (fun cdv A outer s H vs Q E hr h => ⟨t_L_seating K g E, ?_, pure_L_seating  vs H Q E h⟩)
  have hu := hu_of hr
  have tkE : Takes (cxOf (L2.CX P w) P w K mg base N_L_seating "_law_seating" (defScope s_L_seating) f cdv A outer s H E) (wE E) := takes_of rfl rfl rfl rfl
  exact (pss_cons (ps_set (i := 2) sc_L_seating.nd rfl (Or.inl rfl) (pe_listRg rfl (by rfl) T.z_list (prg_1 (by rfl) T.z_range (pv 1))))
    (pss_cons (ps_set (i := 3) sc_L_seating.nd rfl (Or.inl rfl) (pe_lst pa_nil))
    (pss_cons (ps_for (passes_of rfl) rfl (pi_range1 (by rfl) T.z_range (pa_cons (pv 1) pa_nil)) (pg_name (i := 4) sc_L_seating.nd rfl (Or.inl rfl)) (pss_cons (ps_expr (pe_bm PySem.F.plainAttrs_list PySem.F.slot_list_append PySem.F.type_list_append mt_append (pv 3) (pa_cons (pe_bm PySem.F.plainAttrs_list PySem.F.slot_list_pop PySem.F.type_list_pop mt_popAt (pv 2) (pa_cons (pe_op op_modN (pv 0) (pe_op op_sub (pv 1) (pv 4))) pa_nil)) pa_nil)))
    (pss_one (ps_set (i := 0) sc_L_seating.nd rfl (Or.inl rfl) (pe_op op_fdivN (pv 0) (pe_op op_sub (pv 1) (pv 4)))))))
    (pss_one (ps_ret (pe_callTy call_tuple_of (by rfl) T.z_tuple (by decide +kernel) (pa_cons (pv 3) pa_nil)))))))
theorem sc_is_seating : FnScope N_is_seating ["row"] (defScope s_is_seating) := ⟨rfl, rfl, rfl, by decide +kernel, rfl, by decide +kernel, by decide +kernel⟩
theorem ok_is_seating {f : Addr} {fd : FuncData} (T : Txt K mg g) (F : Fun K "is_seating" "is_seating" s_is_seating f fd)  : FnOk P w K mg base (L2.CX P w) 1 f fd ["row"] (sp_is_seating K g) := by
  refine F.okX sc_is_seating (fun vs H Q E h => len_is_seating K g vs H Q E h) (fun cdv A outer s H vs Q E hr h => ⟨t_is_seating K g E, ?_, pure_is_seating  vs H Q E h⟩)
  have hu := hu_of hr
  have tkE : Takes (cxOf (L2.CX P w) P w K mg base N_is_seating "is_seating" (defScope s_is_seating) f cdv A outer s H E) (wE E) := takes_of rfl rfl rfl rfl
  exact (pss_cons (ps_if (PW.pt (pw_or (pt_cmpR op_lt (pe_callB call_len_seq (by rfl) T.z_len PySem.boot_len (pa_cons (pv 0) pa_nil)) pe_int (nomark _)) (pw_or1 (pt_cmpR op_gt (pe_callB call_len_seq (by rfl) T.z_len PySem.boot_len (pa_cons (pv 0) pa_nil)) (pe_globI T.c_MOST) (nomark _))))) (pss_one (ps_ret pe_bl)) pss_nil)
    (pss_cons (ps_for (passes_of rfl) rfl (pi_range1 (by rfl) T.z_range (pa_cons (pe_callB call_len_seq (by rfl) T.z_len PySem.boot_len (pa_cons (pv 0) pa_nil)) pa_nil)) (pg_name (i := 1) sc_is_seating.nd rfl (Or.inl rfl)) (pss_one (ps_if (pt_cmpR op_notIn_seq (pv 1) (pv 0) (by rfl)) (pss_one (ps_ret pe_bl)) pss_nil)))
    (pss_one (ps_ret pe_bl))))
theorem sc_ask_seating : FnScope N_ask_seating ["a"] (defScope s_ask_seating) := ⟨rfl, rfl, rfl, by decide +kernel, rfl, by decide +kernel, by decide +kernel⟩
theorem ok_ask_seating {f : Addr} {fd : FuncData} (T : Txt K mg g) (F : Fun K "ask_seating" "ask_seating" s_ask_seating f fd) (c_is_seating : Cal P w K mg base 1 "is_seating" ["row"] (sp_is_seating K g)) : FnOk P w K mg base (L2.CX P w) 2 f fd ["a"] (sp_ask_seating K g) := by
  refine F.okX sc_ask_seating (fun vs H Q E h => len_ask_seating K g vs H Q E h) (fun cdv A outer s H vs Q E hr h => ⟨t_ask_seating K g E, ?_, pure_ask_seating  vs H Q E h⟩)
  have hu := hu_of hr
  have tkE : Takes (cxOf (L2.CX P w) P w K mg base N_ask_seating "ask_seating" (defScope s_ask_seating) f cdv A outer s H E) (wE E) := takes_of rfl rfl rfl rfl
  exact (pss_one (ps_if (pt_not (pt_val (pe_cal c_is_seating (hr.mono (by decide)) rfl (fun σ => passE0 σ) (pa_cons (pv 0) pa_nil)))) (pss_one (ps_raise rfl tkE (pmk_own PySem.F.excBase_ValueError T.x_NoSeating.ex T.x_NoSeating.gC T.x_NoSeating.kC (raises_own T.x_NoSeating.bC T.x_NoSeating.tC) rfl))) pss_nil))
theorem sc_rings : FnScope N_rings ["a"] (defScope s_rings) := ⟨rfl, rfl, rfl, by decide +kernel, rfl, by decide +kernel, by decide +kernel⟩
theorem ok_rings {f : Addr} {fd : FuncData} (T : Txt K mg g) (F : Fun K "rings" "rings" s_rings f fd) (c_ask_seating : Cal P w K mg base 2 "ask_seating" ["a"] (sp_ask_seating K g)) : FnOk P w K mg base (L2.CX P w) 3 f fd ["a"] (sp_rings K g) := by
  refine F.okX sc_rings (fun vs H Q E h => len_rings K g vs H Q E h) (fun cdv A outer s H vs Q E hr h => ⟨t_rings K g E, ?_, pure_rings  vs H Q E h⟩)
  have hu := hu_of hr
  have tkE : Takes (cxOf (L2.CX P w) P w K mg base N_rings "rings" (defScope s_rings) f cdv A outer s H E) (wE E) := takes_of rfl rfl rfl rfl
  exact (pss_cons (ps_expr (pe_cal c_ask_seating (hr.mono (by decide)) rfl (fun σ => passAt tkE σ) (pa_cons (pv 0) pa_nil)))
    (pss_cons (ps_set (i := 1) sc_rings.nd rfl (Or.inl rfl) (pe_lst pa_nil))
    (pss_cons (ps_set (i := 2) sc_rings.nd rfl (Or.inl rfl) pe_dnewK)
    (pss_cons (ps_for (passes_of rfl) rfl (pi_range1 (by rfl) T.z_range (pa_cons (pe_callB call_len_seq (by rfl) T.z_len PySem.boot_len (pa_cons (pv 0) pa_nil)) pa_nil)) (pg_name (i := 3) sc_rings.nd rfl (Or.inl rfl)) (pss_one (ps_if (pt_cmp (pc_dnotin hu (pv 3) (pv 2))) (pss_cons (ps_set (i := 4) sc_rings.nd rfl (Or.inl rfl) (pe_lst (pa_cons (pv 3) pa_nil)))
    (pss_cons (ps_set (i := 5) sc_rings.nd rfl (Or.inl rfl) (pe_ix ix_tup (pv 0) (pv 3) (fun _ _ => rfl)))
    (pss_cons (ps_while (passes_of rfl) (pt_cmpR op_ne (pv 5) (pv 3) (nomark _)) (pss_cons (ps_expr (pe_bm PySem.F.plainAttrs_list PySem.F.slot_list_append PySem.F.type_list_append mt_append (pv 4) (pa_cons (pv 5) pa_nil)))
    (pss_cons (ps_dput hu (pv 2) (pv 5) pe_bl rfl)
    (pss_one (ps_set (i := 5) sc_rings.nd rfl (Or.inl rfl) (pe_ix ix_tup (pv 0) (pv 5) (fun _ _ => rfl)))))))
    (pss_one (ps_if (pt_cmpR op_gt (pe_callB call_len_seq (by rfl) T.z_len PySem.boot_len (pa_cons (pv 4) pa_nil)) pe_int (nomark _)) (pss_one (ps_expr (pe_bm PySem.F.plainAttrs_list PySem.F.slot_list_append PySem.F.type_list_append mt_append (pv 1) (pa_cons (pe_callTy call_tuple_of (by rfl) T.z_tuple (by decide +kernel) (pa_cons (pv 4) pa_nil)) pa_nil)))) pss_nil))))) pss_nil)))
    (pss_one (ps_ret (pv 1)))))))
theorem sc_shared : FnScope N_shared ["one", "other"] (defScope s_shared) := ⟨rfl, rfl, rfl, by decide +kernel, rfl, by decide +kernel, by decide +kernel⟩
theorem ok_shared {f : Addr} {fd : FuncData} (T : Txt K mg g) (F : Fun K "shared" "shared" s_shared f fd)  : FnOk P w K mg base (L2.CX P w) 1 f fd ["one", "other"] (sp_shared K g) := by
  refine F.okX sc_shared (fun vs H Q E h => len_shared K g vs H Q E h) (fun cdv A outer s H vs Q E hr h => ⟨t_shared K g E, ?_, pure_shared  vs H Q E h⟩)
  have hu := hu_of hr
  have tkE : Takes (cxOf (L2.CX P w) P w K mg base N_shared "shared" (defScope s_shared) f cdv A outer s H E) (wE E) := takes_of rfl rfl rfl rfl
  exact (pss_cons (ps_while (passes_of rfl) (pt_cmpR op_ne (pv 1) pe_int (nomark _)) (pss_cons (ps_set (i := 2) sc_shared.nd rfl (Or.inl rfl) (pe_op op_modN (pv 0) (pv 1)))
    (pss_cons (ps_set (i := 0) sc_shared.nd rfl (Or.inl rfl) (pv 1))
    (pss_one (ps_set (i := 1) sc_shared.nd rfl (Or.inl rfl) (pv 2))))))
    (pss_one (ps_ret (pv 0))))
theorem sc_age : FnScope N_age ["a"] (defScope s_age) := ⟨rfl, rfl, rfl, by decide +kernel, rfl, by decide +kernel, by decide +kernel⟩
theorem ok_age {f : Addr} {fd : FuncData} (T : Txt K mg g) (F : Fun K "age" "age" s_age f fd) (c_rings : Cal P w K mg base 3 "rings" ["a"] (sp_rings K g)) (c_shared : Cal P w K mg base 1 "shared" ["one", "other"] (sp_shared K g)) : FnOk P w K mg base (L2.CX P w) 4 f fd ["a"] (sp_age K g) := by
  refine F.okX sc_age (fun vs H Q E h => len_age K g vs H Q E h) (fun cdv A outer s H vs Q E hr h => ⟨t_age K g E, ?_, pure_age  vs H Q E h⟩)
  have hu := hu_of hr
  have tkE : Takes (cxOf (L2.CX P w) P w K mg base N_age "age" (defScope s_age) f cdv A outer s H E) (wE E) := takes_of rfl rfl rfl rfl
  exact (pss_cons (ps_set (i := 1) sc_age.nd rfl (Or.inl rfl) pe_int)
    (pss_cons (ps_for (passes_of rfl) rfl (pi_list (pe_cal c_rings (hr.mono (by decide)) rfl (fun σ => passAt tkE σ) (pa_cons (pv 0) pa_nil))) (pg_name (i := 2) sc_age.nd rfl (Or.inl rfl)) (pss_one (ps_set (i := 1) sc_age.nd rfl (Or.inl rfl) (pe_op op_mul (pe_op op_fdivN (pv 1) (pe_cal c_shared (hr.mono (by decide)) rfl (fun σ => passE0 σ) (pa_cons (pv 1) (pa_cons (pe_callB call_len_seq (by rfl) T.z_len PySem.boot_len (pa_cons (pv 2) pa_nil)) pa_nil)))) (pe_callB call_len_seq (by rfl) T.z_len PySem.boot_len (pa_cons (pv 2) pa_nil))))))
    (pss_one (ps_ret (pv 1)))))
theorem sc_joined : FnScope N_joined ["a", "b"] (defScope s_joined) := ⟨rfl, rfl, rfl, by decide +kernel, rfl, by decide +kernel, by decide +kernel⟩
theorem ok_joined {f : Addr} {fd : FuncData} (T : Txt K mg g) (F : Fun K "joined" "joined" s_joined f fd)  : FnOk P w K mg base (L2.CX P w) 1 f fd ["a", "b"] (sp_joined K g) := by
  refine F.okX sc_joined (fun vs H Q E h => len_joined K g vs H Q E h) (fun cdv A outer s H vs Q E hr h => ⟨t_joined K g E, ?_, pure_joined  vs H Q E h⟩)
  have hu := hu_of hr
  have tkE : Takes (cxOf (L2.CX P w) P w K mg base N_joined "joined" (defScope s_joined) f cdv A outer s H E) (wE E) := takes_of rfl rfl rfl rfl
  exact (pss_one (ps_ret (pe_callTy call_tuple_of (by rfl) T.z_tuple (by decide +kernel) (pa_cons (pe_lc (own := [("k", 2)]) (g := gName 2) rfl sc_joined.nd (pi_tup (pv 0)) (blkOk_by (own := [("k", 2)]) (N := N_joined) (sc := defScope s_joined) (by decide +kernel)) (fun _ _ _ _ _ => pg_name (i := 2) sc_joined.nd rfl (Or.inl rfl)) (fun _ _ _ _ _ => pts_nil) (fun _ _ _ _ _ => (pe_ix ix_tup (pv 1) (pv 2) (fun _ _ => rfl)))) pa_nil))))
theorem sc_ask_size : FnScope N_ask_size ["size"] (defScope s_ask_size) := ⟨rfl, rfl, rfl, by decide +kernel, rfl, by decide +kernel, by decide +kernel⟩
theorem ok_ask_size {f : Addr} {fd : FuncData} (T : Txt K mg g) (F : Fun K "ask_size" "ask_size" s_ask_size f fd)  : FnOk P w K mg base (L2.CX P w) 1 f fd ["size"] (sp_ask_size K g) := by
  refine F.okX sc_ask_size (fun vs H Q E h => len_ask_size K g vs H Q E h) (fun cdv A outer s H vs Q E hr h => ⟨t_ask_size K g E, ?_, pure_ask_size  vs H Q E h⟩)
  have hu := hu_of hr
  have tkE : Takes (cxOf (L2.CX P w) P w K mg base N_ask_size "ask_size" (defScope s_ask_size) f cdv A outer s H E) (wE E) := takes_of rfl rfl rfl rfl
  exact (pss_one (ps_if (PW.pt (pw_or (pt_cmpR op_lt (pv 0) pe_int (nomark _)) (pw_or1 (pt_cmpR op_gt (pv 0) (pe_globI T.c_MOST) (nomark _))))) (pss_one (ps_raise rfl tkE (pmk_own PySem.F.excBase_ValueError T.x_NoSize.ex T.x_NoSize.gC T.x_NoSize.kC (raises_own T.x_NoSize.bC T.x_NoSize.tC) rfl))) pss_nil))
theorem sc_rest : FnScope N_rest ["size"] (defScope s_rest) := ⟨rfl, rfl, rfl, by decide +kernel, rfl, by decide +kernel, by decide +kernel⟩
theorem ok_rest {f : Addr} {fd : FuncData} (T : Txt K mg g) (F : Fun K "rest" "rest" s_rest f fd) (c_ask_size : Cal P w K mg base 1 "ask_size" ["size"] (sp_ask_size K g)) : FnOk P w K mg base (L2.CX P w) 2 f fd ["size"] (sp_rest K g) := by
  refine F.okX sc_rest (fun vs H Q E h => len_rest K g vs H Q E h) (fun cdv A outer s H vs Q E hr h => ⟨t_rest K g E, ?_, pure_rest  vs H Q E h⟩)
  have hu := hu_of hr
  have tkE : Takes (cxOf (L2.CX P w) P w K mg base N_rest "rest" (defScope s_rest) f cdv A outer s H E) (wE E) := takes_of rfl rfl rfl rfl
  exact (pss_cons (ps_expr (pe_cal c_ask_size (hr.mono (by decide)) rfl (fun σ => passAt tkE σ) (pa_cons (pv 0) pa_nil)))
    (pss_one (ps_ret (pe_tupRg rfl (by rfl) T.z_tuple (prg_1 (by rfl) T.z_range (pv 0))))))
theorem sc_times : FnScope N_times ["a", "n"] (defScope s_times) := ⟨rfl, rfl, rfl, by decide +kernel, rfl, by decide +kernel, by decide +kernel⟩
theorem ok_times {f : Addr} {fd : FuncData} (T : Txt K mg g) (F : Fun K "times" "times" s_times f fd) (c_age : Cal P w K mg base 4 "age" ["a"] (sp_age K g)) (c_joined : Cal P w K mg base 1 "joined" ["a", "b"] (sp_joined K g)) (c_rest : Cal P w K mg base 2 "rest" ["size"] (sp_rest K g)) : FnOk P w K mg base (L2.CX P w) 5 f fd ["a", "n"] (sp_times K g) := by
  refine F.okX sc_times (fun vs H Q E h => len_times K g vs H Q E h) (fun cdv A outer s H vs Q E hr h => ⟨t_times K g E, ?_, pure_times  vs H Q E h⟩)
  have hu := hu_of hr
  have tkE : Takes (cxOf (L2.CX P w) P w K mg base N_times "times" (defScope s_times) f cdv A outer s H E) (wE E) := takes_of rfl rfl rfl rfl
  exact (pss_cons (ps_set (i := 2) sc_times.nd rfl (Or.inl rfl) (pe_op op_modN (pv 1) (pe_cal c_age (hr.mono (by decide)) rfl (fun σ => passAt tkE σ) (pa_cons (pv 0) pa_nil))))
    (pss_cons (ps_set (i := 3) sc_times.nd rfl (Or.inl rfl) (pe_cal c_rest (hr.mono (by decide)) rfl (fun σ => passAt tkE σ) (pa_cons (pe_callB call_len_seq (by rfl) T.z_len PySem.boot_len (pa_cons (pv 0) pa_nil)) pa_nil)))
    (pss_cons (ps_for (passes_of rfl) rfl (pi_range1 (by rfl) T.z_range (pa_cons (pv 2) pa_nil)) (pg_name (i := 4) sc_times.nd rfl (Or.inl rfl)) (pss_one (ps_set (i := 3) sc_times.nd rfl (Or.inl rfl) (pe_cal c_joined (hr.mono (by decide)) rfl (fun σ => passE0 σ) (pa_cons (pv 3) (pa_cons (pv 0) pa_nil))))))
    (pss_one (ps_ret (pv 3))))))
theorem sc_law_k06 : FnScope N_law_k06 ["script"] (defScope s_law_k06) := ⟨rfl, rfl, rfl, by decide +kernel, rfl, by decide +kernel, by decide +kernel⟩
theorem ok_law_k06 {f : Addr} {fd : FuncData} (T : Txt K mg g) (F : Fun K "law" "law" s_law_k06 f fd) (c_L_cell_at : Cal P w K mg base 1 "_law_cell_at" ["script", "k"] (sp_L_cell_at K g)) (c_L_far : Cal P w K mg base 1 "_law_far" ["cell", "size"] (sp_L_far K g)) (c_L_joined : Cal P w K mg base 1 "_law_joined" ["a", "b"] (sp_L_joined K g)) (c_L_same : Cal P w K mg base 2 "_law_same" ["found", "due"] (sp_L_same K g)) (c_L_seating : Cal P w K mg base 1 "_law_seating" ["cell", "size"] (sp_L_seating K g)) (c_L_whole : Cal P w K mg base 1 "_law_whole" ["found"] (sp_L_whole K g)) (c_age : Cal P w K mg base 4 "age" ["a"] (sp_age K g)) (c_times : Cal P w K mg base 5 "times" ["a", "n"] (sp_times K g)) : FnOk P w K mg base (L2.CX P w) 6 f fd ["script"] (sp_law K) := by
  refine F.okX sc_law_k06 (fun vs H Q E h => len_law K g vs H Q E h) (fun cdv A outer s H vs Q E hr h => ⟨t_law_k06 K g E, ?_, pure_law_k06  vs H Q E h⟩)
  have hu := hu_of hr
  have tkE : Takes (cxOf (L2.CX P w) P w K mg base N_law_k06 "law" (defScope s_law_k06) f cdv A outer s H E) (wE E) := takes_of rfl rfl rfl rfl
  exact (pss_cons (ps_set (i := 1) sc_law_k06.nd rfl (Or.inl rfl) (pe_op op_add pe_int (pe_op op_modN (pe_cal c_L_cell_at (hr.mono (by decide)) rfl (fun σ => passE0 σ) (pa_cons (pv 0) (pa_cons pe_int pa_nil))) pe_int)))
    (pss_cons (ps_set (i := 2) sc_law_k06.nd rfl (Or.inl rfl) (pe_cal c_L_seating (hr.mono (by decide)) rfl (fun σ => passE0 σ) (pa_cons (pe_cal c_L_cell_at (hr.mono (by decide)) rfl (fun σ => passE0 σ) (pa_cons (pv 0) (pa_cons pe_int pa_nil))) (pa_cons (pv 1) pa_nil))))
    (pss_cons (ps_if (pt_cmpR op_gt (pv 1) pe_int (nomark _)) (pss_one (ps_set (i := 2) sc_law_k06.nd rfl (Or.inl rfl) (pe_cal c_L_far (hr.mono (by decide)) rfl (fun σ => passE0 σ) (pa_cons (pe_cal c_L_cell_at (hr.mono (by decide)) rfl (fun σ => passE0 σ) (pa_cons (pv 0) (pa_cons pe_int pa_nil))) (pa_cons (pv 1) pa_nil))))) pss_nil)
    (pss_cons (ps_if (pt_cmpR op_eq (pe_op op_modN (pe_op op_fdivN (pe_cal c_L_cell_at (hr.mono (by decide)) rfl (fun σ => passE0 σ) (pa_cons (pv 0) (pa_cons pe_int pa_nil))) pe_int) pe_int) pe_int (nomark _)) (pss_cons (ps_set (i := 1) sc_law_k06.nd rfl (Or.inl rfl) pe_int)
    (pss_cons (ps_set (i := 3) sc_law_k06.nd rfl (Or.inl rfl) (pe_cal c_L_far (hr.mono (by decide)) rfl (fun σ => passE0 σ) (pa_cons (pe_cal c_L_cell_at (hr.mono (by decide)) rfl (fun σ => passE0 σ) (pa_cons (pv 0) (pa_cons pe_int pa_nil))) (pa_cons (pv 1) pa_nil))))
    (pss_cons (ps_set (i := 4) sc_law_k06.nd rfl (Or.inl rfl) (pe_lst (pa_cons pe_int (pa_cons pe_int (pa_cons pe_int (pa_cons pe_int (pa_cons pe_int (pa_cons pe_int (pa_cons pe_int (pa_cons pe_int (pa_cons pe_int (pa_cons pe_int (pa_cons pe_int (pa_cons pe_int (pa_cons pe_int (pa_cons pe_int (pa_cons pe_int (pa_cons pe_int pa_nil))))))))))))))))))
    (pss_cons (ps_set (i := 5) sc_law_k06.nd rfl (Or.inl rfl) (pe_listRg rfl (by rfl) T.z_list (prg_1 (by rfl) T.z_range (pv 1))))
    (pss_cons (ps_for (passes_of rfl) rfl (pi_range1 (by rfl) T.z_range (pa_cons (pv 1) pa_nil)) (pg_name (i := 6) sc_law_k06.nd rfl (Or.inl rfl)) (pss_one (ps_asg (pe_ix ix_tup (pv 3) (pe_ix ix_list (pv 4) (pv 6) (fun _ _ => rfl)) (fun _ _ => rfl)) (pg_sub (pv 5) (pe_ix ix_tup (pv 3) (pv 6) (fun _ _ => rfl)) set_list))))
    (pss_one (ps_set (i := 2) sc_law_k06.nd rfl (Or.inl rfl) (pe_callTy call_tuple_of (by rfl) T.z_tuple (by decide +kernel) (pa_cons (pv 5) pa_nil))))))))) pss_nil)
    (pss_cons (ps_set (i := 7) sc_law_k06.nd rfl (Or.inl rfl) (pe_op op_sub (pe_op op_modN (pe_cal c_L_cell_at (hr.mono (by decide)) rfl (fun σ => passE0 σ) (pa_cons (pv 0) (pa_cons pe_int pa_nil))) pe_int) pe_int))
    (pss_cons (ps_if (pt_cmpR op_eq (pe_op op_modN (pe_op op_fdivN (pe_cal c_L_cell_at (hr.mono (by decide)) rfl (fun σ => passE0 σ) (pa_cons (pv 0) (pa_cons pe_int pa_nil))) pe_int) pe_int) pe_int (nomark _)) (pss_one (ps_set (i := 7) sc_law_k06.nd rfl (Or.inl rfl) (pe_op op_sub (pe_op op_modN (pe_cal c_L_cell_at (hr.mono (by decide)) rfl (fun σ => passE0 σ) (pa_cons (pv 0) (pa_cons pe_int pa_nil))) (pe_op op_pow pe_int pe_int)) (pe_op op_pow pe_int pe_int)))) pss_nil)
    (pss_cons (ps_set (i := 8) sc_law_k06.nd rfl (Or.inl rfl) (pe_tupRg rfl (by rfl) T.z_tuple (prg_1 (by rfl) T.z_range (pv 1))))
    (pss_cons (ps_set (i := 9) sc_law_k06.nd rfl (Or.inl rfl) (pe_lst (pa_cons (pv 8) (pa_cons (pv 2) pa_nil))))
    (pss_cons (ps_while (passes_of rfl) (pt_cmpR (op_neD hr.units) (pe_ix ix_list (pv 9) (pe_un un_neg pe_int) (fun _ _ => rfl)) (pv 8) (nomark _)) (pss_one (ps_expr (pe_bm PySem.F.plainAttrs_list PySem.F.slot_list_append PySem.F.type_list_append mt_append (pv 9) (pa_cons (pe_cal c_L_joined (hr.mono (by decide)) rfl (fun σ => passE0 σ) (pa_cons (pe_ix ix_list (pv 9) (pe_un un_neg pe_int) (fun _ _ => rfl)) (pa_cons (pv 2) pa_nil))) pa_nil)))))
    (pss_cons (ps_set (i := 10) sc_law_k06.nd rfl (Or.inl rfl) (pe_cal c_age (hr.mono (by decide)) rfl (fun σ => passAt tkE σ) (pa_cons (pv 2) pa_nil)))
    (pss_cons (ps_if (PW.pt (pw_or (pt_not (pt_val (pe_cal c_L_whole (hr.mono (by decide)) rfl (fun σ => passE0 σ) (pa_cons (pv 10) pa_nil)))) (pw_or1 (pt_cmpR op_ne (pv 10) (pe_op op_sub (pe_callB call_len_seq (by rfl) T.z_len PySem.boot_len (pa_cons (pv 9) pa_nil)) pe_int) (nomark _))))) (pss_one (ps_ret pe_bl)) pss_nil)
    (pss_one (ps_ret (pe_cal c_L_same (hr.mono (by decide)) rfl (fun σ => passE0 σ) (pa_cons (pe_cal c_times (hr.mono (by decide)) rfl (fun σ => passAt tkE σ) (pa_cons (pv 2) (pa_cons (pv 7) pa_nil))) (pa_cons (pe_ix ix_list (pv 9) (pe_op op_modN (pv 7) (pe_op op_sub (pe_callB call_len_seq (by rfl) T.z_len PySem.boot_len (pa_cons (pv 9) pa_nil)) pe_int)) (fun _ _ => rfl)) pa_nil))))))))))))))))
end
theorem all_mk {l : PySem.W.OpenLaw} {w : World} {K : PySem.W.Frag} {h : Heap} {mg : Str → Option Value} {fa : Addr} {D_NoSeating : Addr} {D_NoSize : Addr} (X : K.In h) (G : h.Ns mainGlobals mg) (hfa : mg "law" = some (.ref fa))
    {tk_MOST : Tok}
    {f_L_cell_at : Addr} {od_L_cell_at an_L_cell_at : Option Addr} {sl_L_cell_at : Array (Option Value)} {oc_L_cell_at kV_L_cell_at dc_L_cell_at pm_L_cell_at cd_L_cell_at ct_L_cell_at : Value}
    {f_L_far : Addr} {od_L_far an_L_far : Option Addr} {sl_L_far : Array (Option Value)} {oc_L_far kV_L_far dc_L_far pm_L_far cd_L_far ct_L_far : Value}
    {f_L_joined : Addr} {od_L_joined an_L_joined : Option Addr} {sl_L_joined : Array (Option Value)} {oc_L_joined kV_L_joined dc_L_joined pm_L_joined cd_L_joined ct_L_joined : Value}
    {f_L_whole : Addr} {od_L_whole an_L_whole : Option Addr} {sl_L_whole : Array (Option Value)} {oc_L_whole kV_L_whole dc_L_whole pm_L_whole cd_L_whole ct_L_whole : Value}
    {f_L_same : Addr} {od_L_same an_L_same : Option Addr} {sl_L_same : Array (Option Value)} {oc_L_same kV_L_same dc_L_same pm_L_same cd_L_same ct_L_same : Value}
    {f_L_seating : Addr} {od_L_seating an_L_seating : Option Addr} {sl_L_seating : Array (Option Value)} {oc_L_seating kV_L_seating dc_L_seating pm_L_seating cd_L_seating ct_L_seating : Value}
    {f_is_seating : Addr} {od_is_seating an_is_seating : Option Addr} {sl_is_seating : Array (Option Value)} {oc_is_seating kV_is_seating dc_is_seating pm_is_seating cd_is_seating ct_is_seating : Value}
    {f_ask_seating : Addr} {od_ask_seating an_ask_seating : Option Addr} {sl_ask_seating : Array (Option Value)} {oc_ask_seating kV_ask_seating dc_ask_seating pm_ask_seating cd_ask_seating ct_ask_seating : Value}
    {f_rings : Addr} {od_rings an_rings : Option Addr} {sl_rings : Array (Option Value)} {oc_rings kV_rings dc_rings pm_rings cd_rings ct_rings : Value}
    {f_shared : Addr} {od_shared an_shared : Option Addr} {sl_shared : Array (Option Value)} {oc_shared kV_shared dc_shared pm_shared cd_shared ct_shared : Value}
    {f_age : Addr} {od_age an_age : Option Addr} {sl_age : Array (Option Value)} {oc_age kV_age dc_age pm_age cd_age ct_age : Value}
    {f_joined : Addr} {od_joined an_joined : Option Addr} {sl_joined : Array (Option Value)} {oc_joined kV_joined dc_joined pm_joined cd_joined ct_joined : Value}
    {f_ask_size : Addr} {od_ask_size an_ask_size : Option Addr} {sl_ask_size : Array (Option Value)} {oc_ask_size kV_ask_size dc_ask_size pm_ask_size cd_ask_size ct_ask_size : Value}
    {f_rest : Addr} {od_rest an_rest : Option Addr} {sl_rest : Array (Option Value)} {oc_rest kV_rest dc_rest pm_rest cd_rest ct_rest : Value}
    {f_times : Addr} {od_times an_times : Option Addr} {sl_times : Array (Option Value)} {oc_times kV_times dc_times pm_times cd_times ct_times : Value}
    {f_law_k06 : Addr} {od_law_k06 an_law_k06 : Option Addr} {sl_law_k06 : Array (Option Value)} {oc_law_k06 kV_law_k06 dc_law_k06 pm_law_k06 cd_law_k06 ct_law_k06 : Value}
    (z_bool : PySem.W.nsIn K mainGlobals "bool" = some none)
    (z_int : PySem.W.nsIn K mainGlobals "int" = some none)
    (z_isinstance : PySem.W.nsIn K mainGlobals "isinstance" = some none)
    (z_len : PySem.W.nsIn K mainGlobals "len" = some none)
    (z_list : PySem.W.nsIn K mainGlobals "list" = some none)
    (z_range : PySem.W.nsIn K mainGlobals "range" = some none)
    (z_tuple : PySem.W.nsIn K mainGlobals "tuple" = some none)
    (c_MOST : PySem.W.nsIn K mainGlobals "MOST" = some (some (.int 16 tk_MOST)))
    (ga_NoSeating : PySem.W.nsIn K mainGlobals "NoSeating" = some (some (.ref D_NoSeating)))
    (xe_NoSeating : PySem.W.excIn K D_NoSeating [.type "ValueError", .type "Exception", .type "BaseException", .type "object"] "ValueError.__new__" = true)
    (xk_NoSeating : PySem.W.keepIn K (.ref D_NoSeating) = true)
    (xb_NoSeating : PySem.W.subIn K (.ref D_NoSeating) (.type "BaseException") = some true)
    (xt_NoSeating : PySem.W.typeIn K (.ref D_NoSeating) = some (.type "type"))
    (ga_NoSize : PySem.W.nsIn K mainGlobals "NoSize" = some (some (.ref D_NoSize)))
    (xe_NoSize : PySem.W.excIn K D_NoSize [.type "ValueError", .type "Exception", .type "BaseException", .type "object"] "ValueError.__new__" = true)
    (xk_NoSize : PySem.W.keepIn K (.ref D_NoSize) = true)
    (xb_NoSize : PySem.W.subIn K (.ref D_NoSize) (.type "BaseException") = some true)
    (xt_NoSize : PySem.W.typeIn K (.ref D_NoSize) = some (.type "type"))
    (a_L_cell_at : PySem.W.nsIn K mainGlobals "_law_cell_at" = some (some (.ref f_L_cell_at)))
    (l_L_cell_at : K.lookup f_L_cell_at = some ⟨oc_L_cell_at, od_L_cell_at, .func (PySem.W.fnOf "_law_cell_at" "_law_cell_at" (defArgs s_L_cell_at) (defBody s_L_cell_at) (defScope s_L_cell_at) .none kV_L_cell_at dc_L_cell_at pm_L_cell_at an_L_cell_at cd_L_cell_at ct_L_cell_at), sl_L_cell_at⟩)
    (co_L_cell_at : PySem.W.codeIn K cd_L_cell_at "_law_cell_at" = true)
    (ke_L_cell_at : PySem.W.keepIn K (.ref f_L_cell_at) = true)
    (a_L_far : PySem.W.nsIn K mainGlobals "_law_far" = some (some (.ref f_L_far)))
    (l_L_far : K.lookup f_L_far = some ⟨oc_L_far, od_L_far, .func (PySem.W.fnOf "_law_far" "_law_far" (defArgs s_L_far) (defBody s_L_far) (defScope s_L_far) .none kV_L_far dc_L_far pm_L_far an_L_far cd_L_far ct_L_far), sl_L_far⟩)
    (co_L_far : PySem.W.codeIn K cd_L_far "_law_far" = true)
    (ke_L_far : PySem.W.keepIn K (.ref f_L_far) = true)
    (a_L_joined : PySem.W.nsIn K mainGlobals "_law_joined" = some (some (.ref f_L_joined)))
    (l_L_joined : K.lookup f_L_joined = some ⟨oc_L_joined, od_L_joined, .func (PySem.W.fnOf "_law_joined" "_law_joined" (defArgs s_L_joined) (defBody s_L_joined) (defScope s_L_joined) .none kV_L_joined dc_L_joined pm_L_joined an_L_joined cd_L_joined ct_L_joined), sl_L_joined⟩)
    (co_L_joined : PySem.W.codeIn K cd_L_joined "_law_joined" = true)
    (ke_L_joined : PySem.W.keepIn K (.ref f_L_joined) = true)
    (a_L_whole : PySem.W.nsIn K mainGlobals "_law_whole" = some (some (.ref f_L_whole)))
    (l_L_whole : K.lookup f_L_whole = some ⟨oc_L_whole, od_L_whole, .func (PySem.W.fnOf "_law_whole" "_law_whole" (defArgs s_L_whole) (defBody s_L_whole) (defScope s_L_whole) .none kV_L_whole dc_L_whole pm_L_whole an_L_whole cd_L_whole ct_L_whole), sl_L_whole⟩)
    (co_L_whole : PySem.W.codeIn K cd_L_whole "_law_whole" = true)
    (ke_L_whole : PySem.W.keepIn K (.ref f_L_whole) = true)
    (a_L_same : PySem.W.nsIn K mainGlobals "_law_same" = some (some (.ref f_L_same)))
    (l_L_same : K.lookup f_L_same = some ⟨oc_L_same, od_L_same, .func (PySem.W.fnOf "_law_same" "_law_same" (defArgs s_L_same) (defBody s_L_same) (defScope s_L_same) .none kV_L_same dc_L_same pm_L_same an_L_same cd_L_same ct_L_same), sl_L_same⟩)
    (co_L_same : PySem.W.codeIn K cd_L_same "_law_same" = true)
    (ke_L_same : PySem.W.keepIn K (.ref f_L_same) = true)
    (a_L_seating : PySem.W.nsIn K mainGlobals "_law_seating" = some (some (.ref f_L_seating)))
    (l_L_seating : K.lookup f_L_seating = some ⟨oc_L_seating, od_L_seating, .func (PySem.W.fnOf "_law_seating" "_law_seating" (defArgs s_L_seating) (defBody s_L_seating) (defScope s_L_seating) .none kV_L_seating dc_L_seating pm_L_seating an_L_seating cd_L_seating ct_L_seating), sl_L_seating⟩)
    (co_L_seating : PySem.W.codeIn K cd_L_seating "_law_seating" = true)
    (ke_L_seating : PySem.W.keepIn K (.ref f_L_seating) = true)
    (a_is_seating : PySem.W.nsIn K mainGlobals "is_seating" = some (some (.ref f_is_seating)))
    (l_is_seating : K.lookup f_is_seating = some ⟨oc_is_seating, od_is_seating, .func (PySem.W.fnOf "is_seating" "is_seating" (defArgs s_is_seating) (defBody s_is_seating) (defScope s_is_seating) .none kV_is_seating dc_is_seating pm_is_seating an_is_seating cd_is_seating ct_is_seating), sl_is_seating⟩)
    (co_is_seating : PySem.W.codeIn K cd_is_seating "is_seating" = true)
    (ke_is_seating : PySem.W.keepIn K (.ref f_is_seating) = true)
    (a_ask_seating : PySem.W.nsIn K mainGlobals "ask_seating" = some (some (.ref f_ask_seating)))
    (l_ask_seating : K.lookup f_ask_seating = some ⟨oc_ask_seating, od_ask_seating, .func (PySem.W.fnOf "ask_seating" "ask_seating" (defArgs s_ask_seating) (defBody s_ask_seating) (defScope s_ask_seating) .none kV_ask_seating dc_ask_seating pm_ask_seating an_ask_seating cd_ask_seating ct_ask_seating), sl_ask_seating⟩)
    (co_ask_seating : PySem.W.codeIn K cd_ask_seating "ask_seating" = true)
    (ke_ask_seating : PySem.W.keepIn K (.ref f_ask_seating) = true)
    (a_rings : PySem.W.nsIn K mainGlobals "rings" = some (some (.ref f_rings)))
    (l_rings : K.lookup f_rings = some ⟨oc_rings, od_rings, .func (PySem.W.fnOf "rings" "rings" (defArgs s_rings) (defBody s_rings) (defScope s_rings) .none kV_rings dc_rings pm_rings an_rings cd_rings ct_rings), sl_rings⟩)
    (co_rings : PySem.W.codeIn K cd_rings "rings" = true)
    (ke_rings : PySem.W.keepIn K (.ref f_rings) = true)
    (a_shared : PySem.W.nsIn K mainGlobals "shared" = some (some (.ref f_shared)))
    (l_shared : K.lookup f_shared = some ⟨oc_shared, od_shared, .func (PySem.W.fnOf "shared" "shared" (defArgs s_shared) (defBody s_shared) (defScope s_shared) .none kV_shared dc_shared pm_shared an_shared cd_shared ct_shared), sl_shared⟩)
    (co_shared : PySem.W.codeIn K cd_shared "shared" = true)
    (ke_shared : PySem.W.keepIn K (.ref f_shared) = true)
    (a_age : PySem.W.nsIn K mainGlobals "age" = some (some (.ref f_age)))
    (l_age : K.lookup f_age = some ⟨oc_age, od_age, .func (PySem.W.fnOf "age" "age" (defArgs s_age) (defBody s_age) (defScope s_age) .none kV_age dc_age pm_age an_age cd_age ct_age), sl_age⟩)
    (co_age : PySem.W.codeIn K cd_age "age" = true)
    (ke_age : PySem.W.keepIn K (.ref f_age) = true)
    (a_joined : PySem.W.nsIn K mainGlobals "joined" = some (some (.ref f_joined)))
    (l_joined : K.lookup f_joined = some ⟨oc_joined, od_joined, .func (PySem.W.fnOf "joined" "joined" (defArgs s_joined) (defBody s_joined) (defScope s_joined) .none kV_joined dc_joined pm_joined an_joined cd_joined ct_joined), sl_joined⟩)
    (co_joined : PySem.W.codeIn K cd_joined "joined" = true)
    (ke_joined : PySem.W.keepIn K (.ref f_joined) = true)
    (a_ask_size : PySem.W.nsIn K mainGlobals "ask_size" = some (some (.ref f_ask_size)))
    (l_ask_size : K.lookup f_ask_size = some ⟨oc_ask_size, od_ask_size, .func (PySem.W.fnOf "ask_size" "ask_size" (defArgs s_ask_size) (defBody s_ask_size) (defScope s_ask_size) .none kV_ask_size dc_ask_size pm_ask_size an_ask_size cd_ask_size ct_ask_size), sl_ask_size⟩)
    (co_ask_size : PySem.W.codeIn K cd_ask_size "ask_size" = true)
    (ke_ask_size : PySem.W.keepIn K (.ref f_ask_size) = true)
    (a_rest : PySem.W.nsIn K mainGlobals "rest" = some (some (.ref f_rest)))
    (l_rest : K.lookup f_rest = some ⟨oc_rest, od_rest, .func (PySem.W.fnOf "rest" "rest" (defArgs s_rest) (defBody s_rest) (defScope s_rest) .none kV_rest dc_rest pm_rest an_rest cd_rest ct_rest), sl_rest⟩)
    (co_rest : PySem.W.codeIn K cd_rest "rest" = true)
    (ke_rest : PySem.W.keepIn K (.ref f_rest) = true)
    (a_times : PySem.W.nsIn K mainGlobals "times" = some (some (.ref f_times)))
    (l_times : K.lookup f_times = some ⟨oc_times, od_times, .func (PySem.W.fnOf "times" "times" (defArgs s_times) (defBody s_times) (defScope s_times) .none kV_times dc_times pm_times an_times cd_times ct_times), sl_times⟩)
    (co_times : PySem.W.codeIn K cd_times "times" = true)
    (ke_times : PySem.W.keepIn K (.ref f_times) = true)
    (a_law_k06 : PySem.W.nsIn K mainGlobals "law" = some (some (.ref f_law_k06)))
    (l_law_k06 : K.lookup f_law_k06 = some ⟨oc_law_k06, od_law_k06, .func (PySem.W.fnOf "law" "law" (defArgs s_law_k06) (defBody s_law_k06) (defScope s_law_k06) .none kV_law_k06 dc_law_k06 pm_law_k06 an_law_k06 cd_law_k06 ct_law_k06), sl_law_k06⟩)
    (co_law_k06 : PySem.W.codeIn K cd_law_k06 "law" = true)
    (ke_law_k06 : PySem.W.keepIn K (.ref f_law_k06) = true) :
    ∃ fd : FuncData, (∀ (s : Shared) (v : Value), BindsTo s fd ⟨[v], []⟩ [("script", v)]) ∧ ∀ base : Heap, K.In base → base.Ns mainGlobals mg → FnOk l.prog w K mg base (L2.CX l.prog w) 6 fa fd ["script"] (sp_law K) := by
  have e := hfa.symm.trans (PySem.W.mg_of X G a_law_k06)
  cases e
  have T : Txt K mg { w := w, NoSeating := D_NoSeating, NoSize := D_NoSize } := {
    z_bool := PySem.W.mg_none_of X G z_bool
    z_int := PySem.W.mg_none_of X G z_int
    z_isinstance := PySem.W.mg_none_of X G z_isinstance
    z_len := PySem.W.mg_none_of X G z_len
    z_list := PySem.W.mg_none_of X G z_list
    z_range := PySem.W.mg_none_of X G z_range
    z_tuple := PySem.W.mg_none_of X G z_tuple
    c_MOST := ⟨_, PySem.W.mg_of X G c_MOST⟩
    g_NoSeating := PySem.W.mg_of X G ga_NoSeating
    g_NoSize := PySem.W.mg_of X G ga_NoSize
    x_NoSeating := ⟨PySem.W.mg_of X G ga_NoSeating, xe_NoSeating, xk_NoSeating, xb_NoSeating, xt_NoSeating⟩
    x_NoSize := ⟨PySem.W.mg_of X G ga_NoSize, xe_NoSize, xk_NoSize, xb_NoSize, xt_NoSize⟩
  }
  have F_L_cell_at := fun_mk (st := s_L_cell_at) l_L_cell_at co_L_cell_at ke_L_cell_at
  have b_L_cell_at := F_L_cell_at.binds (ps := ["script", "k"]) fun _ _ _ _ _ _ us hl => match us, hl with | [_, _], _ => rfl
  have F_L_far := fun_mk (st := s_L_far) l_L_far co_L_far ke_L_far
  have b_L_far := F_L_far.binds (ps := ["cell", "size"]) fun _ _ _ _ _ _ us hl => match us, hl with | [_, _], _ => rfl
  have F_L_joined := fun_mk (st := s_L_joined) l_L_joined co_L_joined ke_L_joined
  have b_L_joined := F_L_joined.binds (ps := ["a", "b"]) fun _ _ _ _ _ _ us hl => match us, hl with | [_, _], _ => rfl
  have F_L_whole := fun_mk (st := s_L_whole) l_L_whole co_L_whole ke_L_whole
  have b_L_whole := F_L_whole.binds (ps := ["found"]) fun _ _ _ _ _ _ us hl => match us, hl with | [_], _ => rfl
  have F_L_same := fun_mk (st := s_L_same) l_L_same co_L_same ke_L_same
  have b_L_same := F_L_same.binds (ps := ["found", "due"]) fun _ _ _ _ _ _ us hl => match us, hl with | [_, _], _ => rfl
  have F_L_seating := fun_mk (st := s_L_seating) l_L_seating co_L_seating ke_L_seating
  have b_L_seating := F_L_seating.binds (ps := ["cell", "size"]) fun _ _ _ _ _ _ us hl => match us, hl with | [_, _], _ => rfl
  have F_is_seating := fun_mk (st := s_is_seating) l_is_seating co_is_seating ke_is_seating
  have b_is_seating := F_is_seating.binds (ps := ["row"]) fun _ _ _ _ _ _ us hl => match us, hl with | [_], _ => rfl
  have F_ask_seating := fun_mk (st := s_ask_seating) l_ask_seating co_ask_seating ke_ask_seating
  have b_ask_seating := F_ask_seating.binds (ps := ["a"]) fun _ _ _ _ _ _ us hl => match us, hl with | [_], _ => rfl
  have F_rings := fun_mk (st := s_rings) l_rings co_rings ke_rings
  have b_rings := F_rings.binds (ps := ["a"]) fun _ _ _ _ _ _ us hl => match us, hl with | [_], _ => rfl
  have F_shared := fun_mk (st := s_shared) l_shared co_shared ke_shared
  have b_shared := F_shared.binds (ps := ["one", "other"]) fun _ _ _ _ _ _ us hl => match us, hl with | [_, _], _ => rfl
  have F_age := fun_mk (st := s_age) l_age co_age ke_age
  have b_age := F_age.binds (ps := ["a"]) fun _ _ _ _ _ _ us hl => match us, hl with | [_], _ => rfl
  have F_joined := fun_mk (st := s_joined) l_joined co_joined ke_joined
  have b_joined := F_joined.binds (ps := ["a", "b"]) fun _ _ _ _ _ _ us hl => match us, hl with | [_, _], _ => rfl
  have F_ask_size := fun_mk (st := s_ask_size) l_ask_size co_ask_size ke_ask_size
  have b_ask_size := F_ask_size.binds (ps := ["size"]) fun _ _ _ _ _ _ us hl => match us, hl with | [_], _ => rfl
  have F_rest := fun_mk (st := s_rest) l_rest co_rest ke_rest
  have b_rest := F_rest.binds (ps := ["size"]) fun _ _ _ _ _ _ us hl => match us, hl with | [_], _ => rfl
  have F_times := fun_mk (st := s_times) l_times co_times ke_times
  have b_times := F_times.binds (ps := ["a", "n"]) fun _ _ _ _ _ _ us hl => match us, hl with | [_, _], _ => rfl
  have F_law_k06 := fun_mk (st := s_law_k06) l_law_k06 co_law_k06 ke_law_k06
  refine ⟨PySem.W.fnOf "law" "law" (defArgs s_law_k06) (defBody s_law_k06) (defScope s_law_k06) .none kV_law_k06 dc_law_k06 pm_law_k06 an_law_k06 cd_law_k06 ct_law_k06, fun s v => .of_eq rfl, fun base _ _ => ?_⟩
  have c_L_cell_at : Cal l.prog w K mg base 1 "_law_cell_at" ["script", "k"] (sp_L_cell_at K _) := ⟨_, _, PySem.W.mg_of X G a_L_cell_at, ke_L_cell_at, b_L_cell_at, ok_L_cell_at (P := l.prog) (w := w) (base := base) T F_L_cell_at ⟩
  have c_L_far : Cal l.prog w K mg base 1 "_law_far" ["cell", "size"] (sp_L_far K _) := ⟨_, _, PySem.W.mg_of X G a_L_far, ke_L_far, b_L_far, ok_L_far (P := l.prog) (w := w) (base := base) T F_L_far ⟩
  have c_L_joined : Cal l.prog w K mg base 1 "_law_joined" ["a", "b"] (sp_L_joined K _) := ⟨_, _, PySem.W.mg_of X G a_L_joined, ke_L_joined, b_L_joined, ok_L_joined (P := l.prog) (w := w) (base := base) T F_L_joined ⟩
  have c_L_whole : Cal l.prog w K mg base 1 "_law_whole" ["found"] (sp_L_whole K _) := ⟨_, _, PySem.W.mg_of X G a_L_whole, ke_L_whole, b_L_whole, ok_L_whole (P := l.prog) (w := w) (base := base) T F_L_whole ⟩
  have c_L_same : Cal l.prog w K mg base 2 "_law_same" ["found", "due"] (sp_L_same K _) := ⟨_, _, PySem.W.mg_of X G a_L_same, ke_L_same, b_L_same, ok_L_same (P := l.prog) (w := w) (base := base) T F_L_same c_L_whole⟩
  have c_L_seating : Cal l.prog w K mg base 1 "_law_seating" ["cell", "size"] (sp_L_seating K _) := ⟨_, _, PySem.W.mg_of X G a_L_seating, ke_L_seating, b_L_seating, ok_L_seating (P := l.prog) (w := w) (base := base) T F_L_seating ⟩
  have c_is_seating : Cal l.prog w K mg base 1 "is_seating" ["row"] (sp_is_seating K _) := ⟨_, _, PySem.W.mg_of X G a_is_seating, ke_is_seating, b_is_seating, ok_is_seating (P := l.prog) (w := w) (base := base) T F_is_seating ⟩
  have c_ask_seating : Cal l.prog w K mg base 2 "ask_seating" ["a"] (sp_ask_seating K _) := ⟨_, _, PySem.W.mg_of X G a_ask_seating, ke_ask_seating, b_ask_seating, ok_ask_seating (P := l.prog) (w := w) (base := base) T F_ask_seating c_is_seating⟩
  have c_rings : Cal l.prog w K mg base 3 "rings" ["a"] (sp_rings K _) := ⟨_, _, PySem.W.mg_of X G a_rings, ke_rings, b_rings, ok_rings (P := l.prog) (w := w) (base := base) T F_rings c_ask_seating⟩
  have c_shared : Cal l.prog w K mg base 1 "shared" ["one", "other"] (sp_shared K _) := ⟨_, _, PySem.W.mg_of X G a_shared, ke_shared, b_shared, ok_shared (P := l.prog) (w := w) (base := base) T F_shared ⟩
  have c_age : Cal l.prog w K mg base 4 "age" ["a"] (sp_age K _) := ⟨_, _, PySem.W.mg_of X G a_age, ke_age, b_age, ok_age (P := l.prog) (w := w) (base := base) T F_age c_rings c_shared⟩
  have c_joined : Cal l.prog w K mg base 1 "joined" ["a", "b"] (sp_joined K _) := ⟨_, _, PySem.W.mg_of X G a_joined, ke_joined, b_joined, ok_joined (P := l.prog) (w := w) (base := base) T F_joined ⟩
  have c_ask_size : Cal l.prog w K mg base 1 "ask_size" ["size"] (sp_ask_size K _) := ⟨_, _, PySem.W.mg_of X G a_ask_size, ke_ask_size, b_ask_size, ok_ask_size (P := l.prog) (w := w) (base := base) T F_ask_size ⟩
  have c_rest : Cal l.prog w K mg base 2 "rest" ["size"] (sp_rest K _) := ⟨_, _, PySem.W.mg_of X G a_rest, ke_rest, b_rest, ok_rest (P := l.prog) (w := w) (base := base) T F_rest c_ask_size⟩
  have c_times : Cal l.prog w K mg base 5 "times" ["a", "n"] (sp_times K _) := ⟨_, _, PySem.W.mg_of X G a_times, ke_times, b_times, ok_times (P := l.prog) (w := w) (base := base) T F_times c_age c_joined c_rest⟩
  exact ok_law_k06 (P := l.prog) (w := w) (base := base) T F_law_k06 c_L_cell_at c_L_far c_L_joined c_L_same c_L_seating c_L_whole c_age c_times
theorem walk {l : PySem.W.OpenLaw} {q : Program} {loose : List Str} {XP : (Str → Option Value) → Heap → Prop} {YP : World → Heap → Prop} {d : DefRec} {K : Params → PySem.W.Frag} (hn : l.most = some 63) (hdf : d.params.defaults = [])
    (hY : ∀ (w : World) (h : Heap), YP w h → (K w.params).In h)
    (F : ∀ (w : World) (mg : Str → Option Value) (fa : Addr) (h : Heap), (K w.params).In h → h.Ns mainGlobals mg → mg d.name = some (.ref fa) →
      ∃ fd : FuncData, (∀ (s : Shared) (u : Value), BindsTo s fd ⟨[u], []⟩ [("script", u)]) ∧ ∀ base : Heap, (K w.params).In base → base.Ns mainGlobals mg → FnOk l.prog w (K w.params) mg base (L2.CX l.prog w) 6 fa fd ["script"] (sp_law (K w.params))) :
    PySem.W.WalkO q loose XP YP l.row.toRowW d [] (fun f vs => PySem.call f vs) :=
  L2.walk_of (n := 63) (k := 6) (x := "script") (CX := fun w => L2.CX l.prog w) (sp := fun w => sp_law (K w.params)) hn (by decide) hdf ⟨rfl, by decide, by decide⟩ hY F (fun _ _ a ns hl _ hS => ⟨a, ns, rfl, hS, hl, fun _ => rfl⟩) fun _ _ _ _ _ z => cx_none z
end Shf
open PySem PySem.W PyProof.Rows
set_option maxRecDepth 100000 in
set_option maxHeartbeats 0 in
theorem PySem.Challenge.cw_shiftroom_k06_many_times_holds : PySem.Challenge.rw_shiftroom_k06_many_times.Holds := by
  w_on; o_law; k_head; (case hw => w_witness2)
  k_fill
  refine Shf.walk (l := PySem.Challenge.rw_shiftroom_k06_many_times) rfl rfl (fun w h Y => PySem.W.kIn_of Y) ?F
  case F =>
    intro w mg fa h KX G hmg
    refine' Shf.all_mk KX G hmg ?z_bool ?z_int ?z_isinstance ?z_len ?z_list ?z_range ?z_tuple ?c_MOST ?ga_NoSeating ?xe_NoSeating ?xk_NoSeating ?xb_NoSeating ?xt_NoSeating ?ga_NoSize ?xe_NoSize ?xk_NoSize ?xb_NoSize ?xt_NoSize ?a_L_cell_at ?l_L_cell_at ?co_L_cell_at ?ke_L_cell_at ?a_L_far ?l_L_far ?co_L_far ?ke_L_far ?a_L_joined ?l_L_joined ?co_L_joined ?ke_L_joined ?a_L_whole ?l_L_whole ?co_L_whole ?ke_L_whole ?a_L_same ?l_L_same ?co_L_same ?ke_L_same ?a_L_seating ?l_L_seating ?co_L_seating ?ke_L_seating ?a_is_seating ?l_is_seating ?co_is_seating ?ke_is_seating ?a_ask_seating ?l_ask_seating ?co_ask_seating ?ke_ask_seating ?a_rings ?l_rings ?co_rings ?ke_rings ?a_shared ?l_shared ?co_shared ?ke_shared ?a_age ?l_age ?co_age ?ke_age ?a_joined ?l_joined ?co_joined ?ke_joined ?a_ask_size ?l_ask_size ?co_ask_size ?ke_ask_size ?a_rest ?l_rest ?co_rest ?ke_rest ?a_times ?l_times ?co_times ?ke_times ?a_law_k06 ?l_law_k06 ?co_law_k06 ?ke_law_k06
    (case z_bool => k_is)
    (case z_int => k_is)
    (case z_isinstance => k_is)
    (case z_len => k_is)
    (case z_list => k_is)
    (case z_range => k_is)
    (case z_tuple => k_is)
    (case c_MOST => k_is)
    (case ga_NoSeating => k_is)
    (case xe_NoSeating => k_exc)
    (case xk_NoSeating => k_is)
    (case xb_NoSeating => k_is)
    (case xt_NoSeating => k_is)
    (case ga_NoSize => k_is)
    (case xe_NoSize => k_exc)
    (case xk_NoSize => k_is)
    (case xb_NoSize => k_is)
    (case xt_NoSize => k_is)
    (case a_L_cell_at => k_is)
    (case l_L_cell_at => k_is)
    (case co_L_cell_at => k_is)
    (case ke_L_cell_at => k_is)
    (case a_L_far => k_is)
    (case l_L_far => k_is)
    (case co_L_far => k_is)
    (case ke_L_far => k_is)
    (case a_L_joined => k_is)
    (case l_L_joined => k_is)
    (case co_L_joined => k_is)
    (case ke_L_joined => k_is)
    (case a_L_whole => k_is)
    (case l_L_whole => k_is)
    (case co_L_whole => k_is)
    (case ke_L_whole => k_is)
    (case a_L_same => k_is)
    (case l_L_same => k_is)
    (case co_L_same => k_is)
    (case ke_L_same => k_is)
    (case a_L_seating => k_is)
    (case l_L_seating => k_is)
    (case co_L_seating => k_is)
    (case ke_L_seating => k_is)
    (case a_is_seating => k_is)
    (case l_is_seating => k_is)
    (case co_is_seating => k_is)
    (case ke_is_seating => k_is)
    (case a_ask_seating => k_is)
    (case l_ask_seating => k_is)
    (case co_ask_seating => k_is)
    (case ke_ask_seating => k_is)
    (case a_rings => k_is)
    (case l_rings => k_is)
    (case co_rings => k_is)
    (case ke_rings => k_is)
    (case a_shared => k_is)
    (case l_shared => k_is)
    (case co_shared => k_is)
    (case ke_shared => k_is)
    (case a_age => k_is)
    (case l_age => k_is)
    (case co_age => k_is)
    (case ke_age => k_is)
    (case a_joined => k_is)
    (case l_joined => k_is)
    (case co_joined => k_is)
    (case ke_joined => k_is)
    (case a_ask_size => k_is)
    (case l_ask_size => k_is)
    (case co_ask_size => k_is)
    (case ke_ask_size => k_is)
    (case a_rest => k_is)
    (case l_rest => k_is)
    (case co_rest => k_is)
    (case ke_rest => k_is)
    (case a_times => k_is)
    (case l_times => k_is)
    (case co_times => k_is)
    (case ke_times => k_is)
    (case a_law_k06 => k_is)
    (case l_law_k06 => k_is)
    (case co_law_k06 => k_is)
    (case ke_law_k06 => k_is)
#print axioms PySem.Challenge.cw_shiftroom_k06_many_times_holds
