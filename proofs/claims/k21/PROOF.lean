import PyProof.Rows.All
import Wide.All
import OpenK.AllK
import Wide.FinOn
import HandS.ForMost
import HandS.Exc
import HandS.TryOnly
import HandS.ExcOwn
import HandS.WordsExc
import HandS.ExcIs
import HandS.IsInst
import HandS.Conv
import HandS.SortInts
import HandS.SortRule
import HandS.Deep
import HandS.Steps
import HandS.TupAny
import HandS.More
import HandS.Rev
import HandS.TupSets
import KE.RegKIsAll
import HandS.RevRange
import PyProof.CollectIter
import PyProof.WalksMore
import HandS.SetFor
import HandS.Strs
import KE.GoesComp
import KE.GoesRaise
import KE.KAsSuite
import HandS.Walk
import HandS.Codes
import HandS.HotCalls
import PySem.Challenge.RW_shiftroom_k21_each_refusal_its_own
set_option Elab.async false
set_option linter.all false
set_option maxRecDepth 100000
set_option maxHeartbeats 4000000
/-! Shiftroom: the rules that every def's proof here stands on. -/
namespace Shf
open PySem L2

/-- the addresses of the classes -/
structure Gd where
  w : World
  RoomError : Addr := 0
  NoSize : Addr := 0
  NoSeating : Addr := 0
  OtherSize : Addr := 0
  NoSeat : Addr := 0
  NoNumber : Addr := 0
  TooMany : Addr := 0
  Unreached : Addr := 0
  TooWide : Addr := 0
  NotRead : Addr := 0
  Room : Addr := 0
  Book : Addr := 0

/-! ### what an exception may be wished -/
abbrev wE (E : XK) : WX := fun cls d _ H => E cls d H
def tRaiseW (W : WX) (C : Addr) : TS := fun _ σ H => W (.ref C) none σ H
theorem passE0 {X : Cx} (σ : L2.St) : PassesAt (L2.CX X.prog X.w) X σ E0 := fun pins H s e s' I c => passL pins σ H s e s' I c
theorem cx_none {P : Program} {w : World} {H : Hp} {s : Shared} {e : Value} {s' : Shared} (z : L2.CX P w [] H s (fun _ _ _ => False) e s') : False := by
  obtain ⟨_, _, _, _, _, _, _, _, _, _, _, _, z⟩ := z
  exact z

/-! ### a def, a method, a class as a callee -/
structure Cal (P : Program) (w : World) (K : PySem.W.Frag) (mg : Str → Option Value) (base : Heap) (k : Nat) (x : Str) (ps : List Str) (sp : Sp) : Prop where mk' ::
  ex : ∃ f fd, mg x = some (.ref f) ∧ PySem.W.keepIn K (.ref f) = true ∧ Binds K fd ps [] ∧ FnOk P w K mg base (L2.CX P w) k f fd ps sp
theorem Cal.mk {P : Program} {w : World} {K : PySem.W.Frag} {mg : Str → Option Value} {base : Heap} {k : Nat} {x : Str} {ps : List Str} {sp : Sp} (f : Addr) (fd : FuncData) (a : mg x = some (.ref f)) (b : PySem.W.keepIn K (.ref f) = true) (c : Binds K fd ps []) (d : FnOk P w K mg base (L2.CX P w) k f fd ps sp) : Cal P w K mg base k x ps sp := ⟨⟨f, fd, a, b, c, d⟩⟩
structure CalM (P : Program) (w : World) (K : PySem.W.Frag) (mg : Str → Option Value) (base : Heap) (k : Nat) (C : Addr) (m : Str) (ps : List Str) (sp : Sp) : Prop where mk' ::
  ex : ∃ f fd, Meth K C m f ∧ Binds K fd ps [] ∧ FnOk P w K mg base (L2.CX P w) k f fd ps sp
theorem CalM.mk {P : Program} {w : World} {K : PySem.W.Frag} {mg : Str → Option Value} {base : Heap} {k : Nat} {C : Addr} {m : Str} {ps : List Str} {sp : Sp} (f : Addr) (fd : FuncData) (a : Meth K C m f) (c : Binds K fd ps []) (d : FnOk P w K mg base (L2.CX P w) k f fd ps sp) : CalM P w K mg base k C m ps sp := ⟨⟨f, fd, a, c, d⟩⟩
structure CalI (P : Program) (w : World) (K : PySem.W.Frag) (mg : Str → Option Value) (base : Heap) (k : Nat) (C : Addr) (ps : List Str) (sp : Sp) : Prop where mk' ::
  ex : ∃ f fd, Mk K C f ∧ Binds K fd ps [] ∧ FnOk P w K mg base (L2.CX P w) k f fd ps sp
theorem CalI.mk {P : Program} {w : World} {K : PySem.W.Frag} {mg : Str → Option Value} {base : Heap} {k : Nat} {C : Addr} {ps : List Str} {sp : Sp} (f : Addr) (fd : FuncData) (a : Mk K C f) (c : Binds K fd ps []) (d : FnOk P w K mg base (L2.CX P w) k f fd ps sp) : CalI P w K mg base k C ps sp := ⟨⟨f, fd, a, c, d⟩⟩

section
variable {X : Cx} {k : Nat} {x m : Str} {C : Addr} {ps : List Str} {sp : Sp} {E : L2.St → XK} {e o : Expr} {es : List Expr} {t : TA} {ta : TE} {p pos apos : Pos}
theorem pe_cal (c : Cal X.prog X.w X.K X.mg X.base k x ps sp) (hr : Room k X.A) (hg : Gl X x) (hx : ∀ σ, PassesAt (L2.CX X.prog X.w) X σ (E σ)) (ha : PA X (e :: es) t) (hdb : (x == ("__debug__" : Str)) = false := by decide)
    (he : starEach (e :: es) X.env = (false, eval e X.env) :: starEach es X.env := by rfl) (hpl : (backTo pos (starEach es X.env)).any (·.1) = false := by rfl) : PE X (.Call (.Name x p) (e :: es) [] pos) (tCallS sp E t) := by
  obtain ⟨f, fd, a, b, c, d⟩ := c.ex
  exact pe_callS d hr hg a b c hx ha hdb he hpl
theorem pe_cal0 (c : Cal X.prog X.w X.K X.mg X.base k x ps sp) (hr : Room k X.A) (hg : Gl X x) (hx : ∀ σ, PassesAt (L2.CX X.prog X.w) X σ (E σ)) (hdb : (x == ("__debug__" : Str)) = false := by decide) : PE X (.Call (.Name x p) [] [] pos) (tCallS sp E tNil) := by
  obtain ⟨f, fd, a, b, c, d⟩ := c.ex
  refine ⟨fun pins s σ H Q I h => ?_⟩
  refine wpAny_Call_Name_kw (ld_glob I hg a ?_ hdb)
  exact PySem.W.callWith_K0 I.kIn b (run_fnS (us := []) (vs := []) d hr c (hx σ) I .nil h)
def tMethS (C : Addr) (m : Str) (sp : Sp) (E : L2.St → XK) (ta : TE) (t : TA) : TE := fun σ H Q => ta σ H fun x H1 => ∃ a dx fs, x = .ref a ∧ H1 a = some (.ins C dx fs) ∧ fs.lookup m = none ∧
  t σ H1 fun vs H2 => sp (x :: vs) H2 Q (E σ)
theorem pe_calM {pl : Sem Bool} (he : PE X o ta) (c : Cls X.K C) (cm : CalM X.prog X.w X.K X.mg X.base k C m ps sp) (hr : Room k X.A) (hx : ∀ σ, PassesAt (L2.CX X.prog X.w) X σ (E σ)) (ha : PA X (e :: es) t)
    (hst : starEach (e :: es) X.env = (false, eval e X.env) :: starEach es X.env := by rfl) (hpl : (backTo pos (starEach es X.env)).any (·.1) = false := by rfl)
    (ht : eval (.Call (.Attribute o m apos) (e :: es) [] pos) X.env = (do
      let ov ← eval o X.env
      standAt apos.atName
      let (f, first) ← holding [ov] (getMethod ov m pl)
      callWith pos f first (backTo pos (starEach (e :: es) X.env)) (backToKw pos (keywordEach [] X.env))) := by rfl) : PE X (.Call (.Attribute o m apos) (e :: es) [] pos) (tMethS C m sp E ta t) := by
  obtain ⟨f, fd, hm, hb, d⟩ := cm.ex
  refine ⟨fun pins s σ H Q I h => ?_⟩
  refine PySem.W.methodCall_KW (pl := pl) (thn (he.run pins s σ H _ I h) fun u s1 ⟨x, H1, I1, rx, a, dx, fs, ex, ea, l, q⟩ => ?_) ht
  subst ex
  obtain rfl : u = Value.ref a := rx
  refine getmeth_ok I1 ea c hm l ?_
  refine PySem.W.callWith_K (first := [.ref a]) (h₀ := X.base) I.ok.mod.kin hm.kp (thn (ha.run pos pins s1 σ H1 _ I1 q) fun us s2 ⟨vs, H2, I2, r, q2⟩ => ⟨I2.kIn, ?_⟩) hst hpl
  exact run_fnS (us := .ref a :: us) (vs := .ref a :: vs) d hr hb (hx σ) I2 (.cons rfl r) q2
theorem pe_calM0 {pl : Sem Bool} (he : PE X o ta) (c : Cls X.K C) (cm : CalM X.prog X.w X.K X.mg X.base k C m ps sp) (hr : Room k X.A) (hx : ∀ σ, PassesAt (L2.CX X.prog X.w) X σ (E σ))
    (ht : eval (.Call (.Attribute o m apos) [] [] pos) X.env = (do
      let ov ← eval o X.env
      standAt apos.atName
      let (f, first) ← holding [ov] (getMethod ov m pl)
      callWith pos f first (backTo pos (starEach [] X.env)) (backToKw pos (keywordEach [] X.env))) := by rfl) : PE X (.Call (.Attribute o m apos) [] [] pos) (tMethS C m sp E ta tNil) := by
  obtain ⟨f, fd, hm, hb, d⟩ := cm.ex
  refine ⟨fun pins s σ H Q I h => ?_⟩
  refine PySem.W.methodCall_KW (pl := pl) (thn (he.run pins s σ H _ I h) fun u s1 ⟨x, H1, I1, rx, a, dx, fs, ex, ea, l, q⟩ => ?_) ht
  subst ex
  obtain rfl : u = Value.ref a := rx
  refine getmeth_ok I1 ea c hm l ?_
  exact PySem.W.callWith_K0 (first := [.ref a]) I1.kIn hm.kp (run_fnS (us := [.ref a]) (vs := [.ref a]) d hr hb (hx σ) I1 (.cons rfl .nil) q)
/-- C(..): a new instance and its dict, then __init__, which may raise what is wished -/
def tMakeS (C : Addr) (sp : Sp) (E : L2.St → XK) (t : TA) : TE := fun σ H Q => t σ H fun vs H1 => ∀ x dx, H1 x = none → H1 dx = none → dx ≠ x →
  sp (.ref x :: vs) (upd (upd H1 dx (.own x)) x (.ins C dx [])) (fun v H2 => v = .non ∧ Q (.ref x) H2) (E σ)
theorem run_makeS {pins : List (Addr × Obj)} {σ : L2.St} {H : Hp} {s : Shared} {Q : VK} {us : List Value} {vs : List V} {f : Addr} {fd : FuncData} {E : L2.St → XK} (M : Mk X.K C f) (F : FnOk X.prog X.w X.K X.mg X.base (L2.CX X.prog X.w) k f fd ps sp) (hr : Room (k + 1) X.A) (hb : Binds X.K fd ps [])
    (hx : PassesAt (L2.CX X.prog X.w) X σ (E σ)) (I : Inv X pins σ H s) (r : Vals vs us)
    (h : ∀ x dx, H x = none → H dx = none → dx ≠ x → sp (.ref x :: vs) (upd (upd H dx (.own x)) x (.ins C dx [])) (fun v H2 => v = .non ∧ Q (.ref x) H2) (E σ)) :
    wpAny (model X.prog X.w) X.A (call (.ref C) us) (EP X pins σ Q) X.xe s := by
  have hq := h (s.heap.objs.size + 1) s.heap.objs.size (I.hok.fresh (Nat.le_succ _)) (I.hok.fresh (Nat.le_refl _)) (Nat.ne_of_lt (Nat.lt_succ_self _))
  have I2 := Inv.made (C := C) I
  have r2 : Vals (V.ref (s.heap.objs.size + 1) :: vs) (Value.ref (s.heap.objs.size + 1) :: us) := .cons rfl r
  have hl : (Value.ref (s.heap.objs.size + 1) :: us).length = ps.length := by
    have e := r2.length
    rw [F.len _ _ _ _ hq] at e
    exact e.symm
  have bd := hb (s := _) (us := Value.ref (s.heap.objs.size + 1) :: us) I2.kIn (by rw [List.append_nil]; exact hl)
  rw [List.append_nil] at bd
  refine wpAny_call (make_map (f := f) I.kIn M.makes M.init (beq_iff_eq.mp M.fn) (codeAny_mono (F.run _ X.stack _ _ ⟨Value.ref (s.heap.objs.size + 1) :: us, []⟩ (Value.ref (s.heap.objs.size + 1) :: us) _ _ (E σ) (hr.make C us [])
    (I2.env0.make C us []) bd r2 hq) fun r s' hq' => ?_))
  cases r with
  | error e => exact hx pins _ _ e s' I2 hq'
  | ok fl =>
    cases fl with
    | ret u =>
      obtain ⟨v, H', I3, rv, ev, q3⟩ := I2.after hq'
      subst ev
      exact ⟨rv, ⟨V.ref (s.heap.objs.size + 1), H', I3, rfl, q3⟩⟩
    | next => exact False.elim hq'
    | brk => exact False.elim hq'
    | cont => exact False.elim hq'
theorem pe_mk (c : CalI X.prog X.w X.K X.mg X.base k C ps sp) (hr : Room (k + 1) X.A) (hg : Gl X x) (hm : X.mg x = some (.ref C)) (hx : ∀ σ, PassesAt (L2.CX X.prog X.w) X σ (E σ)) (ha : PA X (e :: es) t) (hdb : (x == ("__debug__" : Str)) = false := by decide)
    (he : starEach (e :: es) X.env = (false, eval e X.env) :: starEach es X.env := by rfl) (hpl : (backTo pos (starEach es X.env)).any (·.1) = false := by rfl) : PE X (.Call (.Name x p) (e :: es) [] pos) (tMakeS C sp E t) := by
  obtain ⟨f, fd, M, b, d⟩ := c.ex
  refine ⟨fun pins s σ H Q I h => ?_⟩
  refine wpAny_Call_Name_kw (ld_glob I hg hm ?_ hdb)
  refine PySem.W.callWith_K (h₀ := X.base) I.ok.mod.kin M.kp (thn (ha.run pos pins s σ H _ I h) fun us s1 ⟨vs, H1, I1, r, q⟩ => ⟨I1.kIn, ?_⟩) he hpl
  exact run_makeS M d hr b (hx σ) I1 r q
end
/-- what the fields of a room, a book want -/
structure RmC (K : PySem.W.Frag) (g : Gd) : Prop where
  cl : Cls K g.Room
  size : NoAttr K g.Room "size"
  told : NoAttr K g.Room "told"
  book : NoAttr K g.Room "book"
structure BkC (K : PySem.W.Frag) (g : Gd) : Prop where
  cl : Cls K g.Book
  size : NoAttr K g.Book "size"
  steps : NoAttr K g.Book "steps"
  made : NoAttr K g.Book "made"
  rows : NoAttr K g.Book "rows"
  kept : NoAttr K g.Book "kept"

/-! ### operators by short names -/
def rAddI : R2 := rI0 fun i j => V.int (i + j)
def rSubI : R2 := rI0 fun i j => V.int (i - j)
def rMulI : R2 := rI CMul fun i j => V.int (i * j)
/-- // by any divisor of up to 9000 bits -/
def CDivW (i j : Int) : Prop := j ≠ 0 ∧ j.natAbs.log2 < 9000
theorem op_fdivW {X : Cx} : OpR X (binaryOp .FloorDiv) (rI CDivW fun i j => .int (i.fdiv j)) := opI fun _ _ _ _ _ _ _ hc q => PyProof.Rows.floordiv_int hc.1 q (.inl (PyProof.noPylong_of_log2 hc.2))
def rDivI : R2 := rI CDivW fun i j => V.int (i.fdiv j)
def rModI : R2 := rI (fun _ j => j ≠ 0) fun i j => V.int (i.fmod j)
def rPowI : R2 := rI CPow fun i j => V.int (i ^ j.toNat)
def rLtI : R2 := rI0 fun i j => V.bl (decide (i < j))
def rLeI : R2 := rI0 fun i j => V.bl (decide (i ≤ j))
def rGtI : R2 := rI0 fun i j => V.bl (decide (j < i))
def rGeI : R2 := rI0 fun i j => V.bl (decide (j ≤ i))
def rAddS : R2 := fun x y H Q => ∃ i j, x = V.str i ∧ y = V.str j ∧ i.length + j.length ≤ sizeLine ∧ Q (.str (i ++ j)) H
def rLenQ (K : PySem.W.Frag) : List V → Hp → VK → Prop := fun xs H Q => ∃ p ys, xs = [.ref p] ∧ (SqL K H p ys ∨ SqT K H p ys) ∧ Q (.int ys.length) H
def rLenDk : List V → Hp → VK → Prop := fun xs H Q => ∃ a kvs, xs = [V.ref a] ∧ H a = some (.dK kvs) ∧ Q (.int kvs.length) H
def rLenSt : List V → Hp → VK → Prop := fun xs H Q => ∃ z, xs = [.str z] ∧ z.length ≤ sizeLine ∧ Q (.int z.length) H
def rListOf (K : PySem.W.Frag) : List V → Hp → VK → Prop := fun xs H Q => ∃ p ys, xs = [.ref p] ∧ (SqL K H p ys ∨ SqT K H p ys) ∧ ∀ l, H l = none → Q (.ref l) (upd H l (.lst ys))
def rTupOf (K : PySem.W.Frag) : List V → Hp → VK → Prop := fun xs H Q => ∃ p ys, xs = [.ref p] ∧ ((SqL K H p ys ∧ ∀ l, H l = none → Q (.ref l) (upd H l (.tup ys))) ∨ (SqT K H p ys ∧ Q (.ref p) H))
def rStrI : List V → Hp → VK → Prop := fun xs H Q => ∃ i, xs = [.int i] ∧ i.natAbs.log2 < 1920 ∧ Q (.str (toString i)) H
def rIntS : List V → Hp → VK → Prop := fun xs H Q => ∃ a n, xs = [.str a] ∧ PySem.intText? a = some n ∧ a.length ≤ 640 ∧ Q (.int n) H
def rMax2 : List V → Hp → VK → Prop := fun xs H Q => ∃ i j, xs = [.int i, .int j] ∧ Q (.int (if j > i then j else i)) H
def rMin2 : List V → Hp → VK → Prop := fun xs H Q => ∃ i j, xs = [.int i, .int j] ∧ Q (.int (if j < i then j else i)) H
def rInsert : V → List V → Hp → VK → Prop := fun x vs H Q => ∃ (l : Addr) (xs : List V) (i : Int) (y : V), x = .ref l ∧ vs = [.int i, y] ∧ H l = some (.lst xs) ∧ xs.length < sizeLine ∧ 0 ≤ i ∧ i < 2 ^ 63 ∧
    Q .non (upd H l (.lst (xs.take i.toNat ++ [y] ++ xs.drop i.toNat)))
def rJoin (K : PySem.W.Frag) : V → List V → Hp → VK → Prop := fun x xs H Q => ∃ a p, ∃ ys : List Str, x = .str a ∧ xs = [.ref p] ∧ (SqL K H p (ys.map V.str) ∨ SqT K H p (ys.map V.str)) ∧
      (ys.map (·.length)).sum + ys.length * a.length ≤ 16777216 ∧ Q (.str (Txt.join a ys)) H
def rSplit : V → List V → Hp → VK → Prop := fun x xs H Q => ∃ a b, x = .str a ∧ xs = [.str b] ∧ (b.length == 0) = false ∧ a.length + 2 ≤ sizeLine ∧ rNewStrs (Txt.split a b) H Q
theorem hu65 {k : Nat} {A : Around} (hr : Room k A) : A.units + 65 < cLine := by have := hr.un; omega

section
variable {X : Cx}
theorem pe_globI {x : Str} {i : Int} {pos : Pos} (hm : ∃ t, X.mg x = some (.int i t)) (hg : Gl X x := by rfl) (hd : (x == ("__debug__" : Str)) = false := by decide) : PE X (.Name x pos) (tC (.int i)) := by
  obtain ⟨t, h⟩ := hm
  exact pe_glob hg h ⟨_, rfl⟩ hd
theorem pe_globS {x : Str} {i : Str} {pos : Pos} (hm : ∃ t, X.mg x = some (.str i t)) (hg : Gl X x := by rfl) (hd : (x == ("__debug__" : Str)) = false := by decide) : PE X (.Name x pos) (tC (.str i)) := by
  obtain ⟨t, h⟩ := hm
  exact pe_glob hg h ⟨_, rfl⟩ hd
end

/-! ### own exceptions -/
structure ExB (K : PySem.W.Frag) (mg : Str → Option Value) (x : Str) (D : Addr) : Prop where
  gC : mg x = some (.ref D)
  ex : PySem.W.excIn K D [.type "ValueError", .type "Exception", .type "BaseException", .type "object"] "ValueError.__new__" = true
  kC : PySem.W.keepIn K (.ref D) = true
  bC : PySem.W.subIn K (.ref D) (.type "BaseException") = some true
  tC : PySem.W.typeIn K (.ref D) = some (.type "type")
/-- isinstance(e, c) in an except suite that holds an exception of class cls -/
def rIsE2 (K : PySem.W.Frag) (cls : Value) (d : Option Addr) (a : Addr) : List V → Hp → VK → Prop := fun xs H Q => ∃ D, cls = .ref D ∧ d = none ∧ ExcC K D ∧ rIsE K D a xs H Q
theorem call_isE2 {X : Cx} {a : Addr} {oe : Obj} {cls : Value} {d : Option Addr} {pn : List (Addr × Obj)} (hz : Zc cls d oe) (hf : ∃ vs, oe.data = .fields vs) : CallR (X.suite a ((a, oe) :: pn)) (.builtin "isinstance") (rIsE2 X.K cls d a) := by
  intro pins s σ H xs us Q I r h
  obtain ⟨D, rfl, rfl, C, h⟩ := h
  exact call_isE C hz hf pins s σ H xs us Q I r h

/-! ### data -/
/-- numbers as values -/
abbrev vI (a : List Int) : List V := a.map V.int
abbrev vN (a : List Nat) : List V := a.map fun (n : Nat) => V.int (n : Int)
/-- a new tuple of numbers is handed back, all else as it was -/
def NewT (H : Hp) (a : List Nat) (Q : VK) : Prop := ∀ (r : Addr) (H' : Hp), Same H H' → H r = none → H' r = some (.tup (vN a)) → Q (.ref r) H'
theorem vN_at {a : List Nat} {i n : Nat} (h : a[i]? = some n) : (vN a)[i]? = some (V.int (n : Int)) := by
  show (a.map _)[i]? = _
  rw [List.getElem?_map, h] <;> rfl
theorem vI_at {a : List Int} {i : Nat} {n : Int} (h : a[i]? = some n) : (vI a)[i]? = some (V.int n) := by
  show (a.map _)[i]? = _
  rw [List.getElem?_map, h] <;> rfl
theorem getD_at {a : List Nat} {i : Nat} (h : i < a.length) : a[i]? = some (a.getD i 0) := by
  rw [List.getD_eq_getElem?_getD, List.getElem?_eq_getElem h] <;> rfl
theorem at_vN {a : List Nat} {z : Int} {i : Nat} (e : z = (i : Int)) (h : i < a.length) : atI (vN a) z = some (V.int ((a.getD i 0 : Nat) : Int)) := at_of e (vN_at (getD_at h))
theorem vN_eq (a : List Nat) : vN a = vI (a.map fun (n : Nat) => (n : Int)) := by
  show a.map _ = (a.map _).map _
  rw [List.map_map] <;> rfl
theorem vN_len (a : List Nat) : (vN a).length = a.length := List.length_map ..
theorem vI_len (a : List Int) : (vI a).length = a.length := List.length_map ..
theorem _root_.L2.Same.up {H H' : Hp} {p : Addr} {o : HO} (s : Same H H') (h : H p = none) : Same H (upd H' p o) := fun b u e => by
  rw [upd_ne (ne_of_none e h)]
  exact s b u e
theorem _root_.L2.Same.new {H H' : Hp} {p : Addr} {o : HO} (s : Same H H') (h : H' p = none) : Same H (upd H' p o) := s.up (s.free h)
theorem _root_.L2.Same.tup {K : PySem.W.Frag} {H H' : Hp} {a : Addr} {xs : List V} (e : Same H H') (h : SqT K H a xs) : SqT K H' a xs := by
  rcases h with (h | ⟨o, h⟩) | h
  · exact .inl (.inl (e _ _ h))
  · exact .inl (.inr ⟨o, e _ _ h⟩)
  · exact .inr h
theorem sqT {K : PySem.W.Frag} {H : Hp} {a : Addr} {xs : List V} (h : H a = some (.tup xs)) : SqT K H a xs := .inl (.inl h)
theorem sqL {K : PySem.W.Frag} {H : Hp} {a : Addr} {xs : List V} (h : H a = some (.lst xs)) : SqL K H a xs := .inl (.inl h)
theorem zl {n : Nat} (h : n ≤ 100000) : n ≤ sizeLine := Nat.le_trans h (by decide)
theorem zlt {n : Nat} (h : n < 100000) : n < sizeLine := Nat.lt_of_lt_of_le h (by decide)
theorem if_t {c : Bool} {A B : Prop} (hc : c = true) (h : A) : if c = true then A else B := by rw [if_pos hc]; exact h
theorem if_f {c : Bool} {A B : Prop} (hc : c = false) (h : B) : if c = true then A else B := by rw [hc, if_neg Bool.false_ne_true]; exact h
theorem if_d {c : Prop} [Decidable c] {A B : Prop} (h1 : c → A) (h2 : ¬ c → B) : if decide c = true then A else B := by
  by_cases h : c
  · exact if_t (decide_eq_true h) (h1 h)
  · exact if_f (decide_eq_false h) (h2 h)
theorem if_b {c : Bool} {A B : Prop} (h1 : c = true → A) (h2 : c = false → B) : if c = true then A else B := by
  cases c with
  | true => exact if_t rfl (h1 rfl)
  | false => exact if_f rfl (h2 rfl)
theorem fmod_pos {a b : Int} (h : 0 < b) : a.fmod b = a % b := Int.fmod_eq_emod_of_nonneg a (Int.le_of_lt h)
theorem fdiv_pos {a b : Int} (h : 0 < b) : a.fdiv b = a / b := Int.fdiv_eq_ediv_of_nonneg a (Int.le_of_lt h)
end Shf

/-! numbers, lists, permutations; steps of the reading by names -/
namespace Shf
open PySem L2
/-! ### steps: one a combinator -/
section
variable {K : PySem.W.Frag} {σ : L2.St} {H : Hp} {Q : VK} {QA : List V → Hp → Prop} {QB : Bool → Hp → Prop} {D : Ends} {te tf : TE} {ta : TA} {tt tu : TT} {t u : TS} {g : TG}
theorem w_seq (h : t { D with nx := u D } σ H) : tSeq t u D σ H := h
theorem w_asg {i : Nat} (h : te σ H fun x H1 => D.nx (σ.set i (some x)) H1) : tAsg te (gName i) D σ H := h
theorem w_asgS {to ti : TE} {r : TSet} (h : te σ H fun x H1 => to σ H1 fun o H1 => ti σ H1 fun i H2 => r o i x H2 fun H3 => D.nx σ H3) : tAsg te (gSub to ti r) D σ H := h
theorem w_drop (h : te σ H fun _ H1 => D.nx σ H1) : tDrop te D σ H := h
theorem w_ret (h : te σ H D.rt) : tRet te D σ H := h
theorem w_next (h : D.nx σ H) : tNext D σ H := h
theorem w_if (h : tt σ H fun b H1 => if b = true then t D σ H1 else u D σ H1) : tIfS tt t u D σ H := h
theorem w_var {i : Nat} {v : V} (e : σ[i]? = some (some v)) (q : Q v H) : tVar i σ H Q := ⟨v, e, q⟩
theorem w_c {v : V} (q : Q v H) : tC v σ H Q := q
theorem w_op {r : R2} (h : te σ H fun x H1 => tf σ H1 fun y H2 => r x y H2 Q) : tOp r te tf σ H Q := h
theorem w_un {r : V → Hp → VK → Prop} (h : te σ H fun x H1 => r x H1 Q) : tUn r te σ H Q := h
theorem w_nil (h : QA [] H) : tNil σ H QA := h
theorem w_cons (h : te σ H fun x H1 => ta σ H1 fun xs H2 => QA (x :: xs) H2) : tCons te ta σ H QA := h
theorem w_cb {r : List V → Hp → VK → Prop} (h : ta σ H fun vs H1 => r vs H1 Q) : tCB r ta σ H Q := h
theorem w_call {sp : Sp} {E : L2.St → XK} (h : ta σ H fun vs H1 => sp vs H1 Q (E σ)) : tCallS sp E ta σ H Q := h
theorem w_test (h : te σ H fun x H' => ∃ k, x = .bl k ∧ QB k H') : tTest te σ H QB := h
theorem w_b (h : te σ H fun x H' => ∃ k, x = .bl k ∧ QB k H') : tB te σ H QB := h
theorem w_bex {b : Bool} {P : Bool → Prop} (h : P b) : ∃ k, V.bl b = .bl k ∧ P k := ⟨b, rfl, h⟩
theorem w_and (h : tt σ H fun c H1 => if c = true then tu σ H1 QB else QB false H1) : tAnd tt tu σ H QB := h
theorem w_or (h : tt σ H fun c H1 => if c = true then QB true H1 else tu σ H1 QB) : tOr tt tu σ H QB := h
theorem w_orP {b c : Bool} (ht : ∀ R : Bool → Hp → Prop, R b H → tt σ H R) (hu : ∀ R : Bool → Hp → Prop, R c H → tu σ H R) (q : QB (b || c) H) : tOr tt tu σ H QB := by
  refine ht _ ?_
  cases b with
  | true => exact q
  | false => exact hu _ q
theorem w_andP {b c : Bool} (ht : ∀ R : Bool → Hp → Prop, R b H → tt σ H R) (hu : ∀ R : Bool → Hp → Prop, R c H → tu σ H R) (q : QB (b && c) H) : tAnd tt tu σ H QB := by
  refine ht _ ?_
  cases b with
  | true => exact hu _ q
  | false => exact q
theorem w_not (h : tt σ H fun c H1 => QB (!c) H1) : tNot tt σ H QB := h
theorem w_andV (h : te σ H fun x H1 => ∃ c, x = .bl c ∧ if c = true then tf σ H1 Q else Q (.bl false) H1) : tAndV te tf σ H Q := h
theorem w_orV (h : te σ H fun x H1 => ∃ c, x = .bl c ∧ if c = true then Q (.bl true) H1 else tf σ H1 Q) : tOrV te tf σ H Q := h
theorem w_notV (h : te σ H fun x H1 => ∃ c, x = .bl c ∧ Q (.bl (!c)) H1) : tNotV te σ H Q := h
theorem w_ife (h : tt σ H fun c H1 => if c = true then te σ H1 Q else tf σ H1 Q) : tIf tt te tf σ H Q := h
theorem w_add {i j : Int} (q : Q (.int (i + j)) H) : rAddI (.int i) (.int j) H Q := ⟨i, j, rfl, rfl, q⟩
theorem w_sub {i j : Int} (q : Q (.int (i - j)) H) : rSubI (.int i) (.int j) H Q := ⟨i, j, rfl, rfl, q⟩
theorem w_neg {i : Int} (q : Q (.int (-i)) H) : rU (fun i => V.int (-i)) (.int i) H Q := ⟨i, rfl, q⟩
theorem w_lt {i j : Int} (q : Q (.bl (decide (i < j))) H) : rLtI (.int i) (.int j) H Q := ⟨i, j, rfl, rfl, q⟩
theorem w_le {i j : Int} (q : Q (.bl (decide (i ≤ j))) H) : rLeI (.int i) (.int j) H Q := ⟨i, j, rfl, rfl, q⟩
theorem w_gt {i j : Int} (q : Q (.bl (decide (j < i))) H) : rGtI (.int i) (.int j) H Q := ⟨i, j, rfl, rfl, q⟩
theorem w_ge {i j : Int} (q : Q (.bl (decide (j ≤ i))) H) : rGeI (.int i) (.int j) H Q := ⟨i, j, rfl, rfl, q⟩
theorem w_tup (h : ta σ H fun xs H1 => xs.length ≤ sizeLine ∧ ∀ p, H1 p = none → Q (.ref p) (upd H1 p (.tup xs))) : tTup ta σ H Q := h
theorem w_lst (h : ta σ H fun xs H1 => xs.length ≤ sizeLine ∧ ∀ p, H1 p = none → Q (.ref p) (upd H1 p (.lst xs))) : tLst ta σ H Q := h
theorem w_lrg {tr : L2.St → Hp → (Int → Int → Hp → Prop) → Prop} (h : tr σ H fun a b H1 => RgOk a b ∧ ∀ q, H1 q = none → Q (.ref q) (upd H1 q (.lst (rgV a b)))) : tLstRg tr σ H Q := h
theorem w_trg {tr : L2.St → Hp → (Int → Int → Hp → Prop) → Prop} (h : tr σ H fun a b H1 => RgOk a b ∧ ∀ q, H1 q = none → Q (.ref q) (upd H1 q (.tup (rgV a b)))) : tTupRg tr σ H Q := h
theorem w_rg1 {QR : Int → Int → Hp → Prop} (h : te σ H fun x H1 => ∃ n, x = .int n ∧ QR 0 n H1) : tRg1 te σ H QR := h
theorem w_iex {i : Int} {P : Int → Prop} (h : P i) : ∃ n, V.int i = .int n ∧ P n := ⟨i, rfl, h⟩
theorem w_yes (q : QB true H) : tYes σ H QB := q
theorem w_bm {T : String} {r : V → List V → Hp → VK → Prop} (h : te σ H fun x H1 => tyV K T x H1 ∧ ta σ H1 fun xs H2 => r x xs H2 Q) : tBM K T r te ta σ H Q := h
theorem w_bm0 {T : String} {r : V → List V → Hp → VK → Prop} (h : te σ H fun x H1 => tyV K T x H1 ∧ r x [] H1 Q) : tBM0 K T r te σ H Q := h
def rFld (K : PySem.W.Frag) (f : Str) (x : V) (H : Hp) (Q : VK) : Prop := ∃ a C dx fs v, x = .ref a ∧ H a = some (.ins C dx fs) ∧ Cls K C ∧ NoAttr K C f ∧ fs.lookup f = some v ∧ Q v H
theorem w_fld {f : Str} (h : te σ H fun x H1 => rFld K f x H1 Q) : tFld K te f σ H Q := h
theorem w_sfld {f : Str} (h : tf σ H fun y H1 => te σ H1 fun x H2 => ∃ a C dx fs, x = .ref a ∧ H2 a = some (.ins C dx fs) ∧ Cls K C ∧ NoAttr K C f ∧ fs.length < 1000 ∧ D.nx σ (upd H2 a (.ins C dx (putF f y fs)))) : sFld K te tf f D σ H := h
def rDGet (x y : V) (H : Hp) (Q : VK) : Prop := ∃ a v, x = .ref a ∧ DGet H a y (some v) ∧ Q v H
theorem w_dget (h : te σ H fun x H1 => tf σ H1 fun y H2 => rDGet x y H2 Q) : tDGet te tf σ H Q := h
theorem w_dget1 (h : te σ H fun x H1 => ∃ a, x = .ref a ∧ IsD H1 a ∧ tf σ H1 fun y H2 => ∃ o, DGet H2 a y o ∧ Q (o.getD .non) H2) : tDGet1 te tf σ H Q := h
theorem w_meth {C : Addr} {m : Str} {sp : Sp} {E : L2.St → XK} (h : te σ H fun x H1 => ∃ a dx fs, x = .ref a ∧ H1 a = some (.ins C dx fs) ∧ fs.lookup m = none ∧ ta σ H1 fun vs H2 => sp (x :: vs) H2 Q (E σ)) : tMethS C m sp E te ta σ H Q := h
def rMake (C : Addr) (sp : Sp) (E : XK) (vs : List V) (H1 : Hp) (Q : VK) : Prop := ∀ x dx, H1 x = none → H1 dx = none → dx ≠ x → sp (.ref x :: vs) (upd (upd H1 dx (.own x)) x (.ins C dx [])) (fun v H2 => v = .non ∧ Q (.ref x) H2) E
theorem w_make {C : Addr} {sp : Sp} {E : L2.St → XK} (h : ta σ H fun vs H1 => rMake C sp (E σ) vs H1 Q) : tMakeS C sp E ta σ H Q := h
theorem w_raise {W : WX} {C : Addr} (h : W (.ref C) none σ H) : tRaiseW W C D σ H := h
end
/-- ways that meet: what holds where they meet -/
theorem w_join {t : TS} {D : Ends} {σ : L2.St} {H : Hp} (M : L2.St → Hp → Prop) (key : ∀ σ' H', M σ' H' → D.nx σ' H') (h : (∀ σ' H', M σ' H' → D.nx σ' H') → t D σ H) : t D σ H := h key
/-- for .. in range(n), behind n's reading -/
theorem w_for1 {σ : L2.St} {H : Hp} {D : Ends} {i n : Nat} {t : TS} (hn : n ≤ 1000000) (Pv : Nat → L2.St → Hp → Prop) (h0 : Pv 0 σ H)
    (hs : ∀ k σ H, k < n → Pv k σ H → t { D with nx := Pv (k + 1), ct := Pv (k + 1), bk := D.nx } (σ.set i (some (.int (k : Int)))) H) (hd : ∀ σ H, Pv n σ H → D.nx σ H) :
    ∃ j : Int, [V.int (n : Int)] = [.int j] ∧ -(2 ^ 62) ≤ j ∧ j < 2 ^ 62 ∧ ∃ W : Nat → Nat → L2.St → Hp → Prop, (∃ m, W 0 m σ H) ∧ ∀ i' m σ H, W i' m σ H →
      ((Itr 0 j.toNat).stop i' H ∧ D.nx σ H) ∨ ((Itr 0 j.toNat).go i' H ∧ ∃ N : L2.St → Hp → Prop, (∀ σ' H', N σ' H' → ∃ m', m' < m ∧ W (i' + 1) m' σ' H') ∧ ∀ x H', (Itr 0 j.toNat).yld i' H x H' → gName i x σ H' fun σ2 H2 => t { D with nx := N, ct := N, bk := D.nx } σ2 H2) :=
  ⟨_, rfl, by omega, by omega, for_range (n := n) Pv h0 (fun k σ H hk p => by
    show t _ (σ.set i (some (V.int (0 + (k : Int))))) H
    rw [Int.zero_add]
    exact hs k σ H hk p) hd⟩
theorem w_for {σ : L2.St} {H : Hp} {D : Ends} {wi : TI} {g : TG} {tb : TS} (h : wi σ H fun J H1 => ∃ W : Nat → Nat → L2.St → Hp → Prop, (∃ m, W 0 m σ H1) ∧ ∀ i m σ H, W i m σ H →
  (J.stop i H ∧ D.nx σ H) ∨ (J.go i H ∧ ∃ N : L2.St → Hp → Prop, (∀ σ' H', N σ' H' → ∃ m', m' < m ∧ W (i + 1) m' σ' H') ∧ ∀ x H', J.yld i H x H' → g x σ H' fun σ2 H2 => tb { D with nx := N, ct := N, bk := D.nx } σ2 H2)) : tFor wi g tb D σ H := h
theorem w_irng1 {σ : L2.St} {H : Hp} {ta : TA} {R : It → Hp → Prop} (h : ta σ H fun vs H1 => ∃ j : Int, vs = [.int j] ∧ -(2 ^ 62) ≤ j ∧ j < 2 ^ 62 ∧ R (Itr 0 j.toNat) H1) : iRng1 ta σ H R := h
theorem w_irng2 {σ : L2.St} {H : Hp} {ta : TA} {R : It → Hp → Prop} (h : ta σ H fun vs H1 => ∃ i j : Int, vs = [.int i, .int j] ∧ (-(2 ^ 62) ≤ i ∧ i < 2 ^ 62 ∧ -(2 ^ 62) ≤ j ∧ j < 2 ^ 62) ∧ R (Itr i (j - i).toNat) H1) : iRng2 ta σ H R := h
theorem w_ilist {K : PySem.W.Frag} {σ : L2.St} {H : Hp} {te : TE} {R : It → Hp → Prop} (h : te σ H fun x H1 => ∃ a, x = .ref a ∧ (∃ xs, SqL K H1 a xs) ∧ R (Itl K a) H1) : iList K te σ H R := h
theorem w_itup {K : PySem.W.Frag} {σ : L2.St} {H : Hp} {te : TE} {R : It → Hp → Prop} (h : te σ H fun x H1 => ∃ a, x = .ref a ∧ (∃ xs, SqT K H1 a xs) ∧ R (Itt K a) H1) : iTup K te σ H R := h
/-! ### steps -/
section
variable {K : PySem.W.Frag} {H : Hp} {Q : VK} {p : Addr}
theorem ix_LN {a : List Nat} {z : Int} {i : Nat} (h : SqL K H p (vN a)) (hi : i < a.length) (e : z = (i : Int)) (q : Q (.int ((a.getD i 0 : Nat) : Int)) H) : rIxL K (.ref p) (.int z) H Q := ⟨p, _, _, _, rfl, rfl, h, at_vN e hi, q⟩
theorem ix_TN {a : List Nat} {z : Int} {i : Nat} (h : SqT K H p (vN a)) (hi : i < a.length) (e : z = (i : Int)) (q : Q (.int ((a.getD i 0 : Nat) : Int)) H) : rIxT K (.ref p) (.int z) H Q := ⟨p, _, _, _, rfl, rfl, h, at_vN e hi, q⟩
theorem ix_L {xs : List V} {z : Int} {i : Nat} {v : V} (h : SqL K H p xs) (hi : xs[i]? = some v) (e : z = (i : Int)) (q : Q v H) : rIxL K (.ref p) (.int z) H Q := ⟨p, _, _, _, rfl, rfl, h, at_of e hi, q⟩
theorem ix_T {xs : List V} {z : Int} {i : Nat} {v : V} (h : SqT K H p xs) (hi : xs[i]? = some v) (e : z = (i : Int)) (q : Q v H) : rIxT K (.ref p) (.int z) H Q := ⟨p, _, _, _, rfl, rfl, h, at_of e hi, q⟩
theorem len_L {xs : List V} (h : SqL K H p xs) (q : Q (.int (xs.length : Nat)) H) : rLenQ K [.ref p] H Q := ⟨p, xs, rfl, .inl h, q⟩
theorem len_T {xs : List V} (h : SqT K H p xs) (q : Q (.int (xs.length : Nat)) H) : rLenQ K [.ref p] H Q := ⟨p, xs, rfl, .inr h, q⟩
theorem len_LN {a : List Nat} (h : SqL K H p (vN a)) (q : Q (.int (a.length : Nat)) H) : rLenQ K [.ref p] H Q := ⟨p, _, rfl, .inl h, by rw [vN_len]; exact q⟩
theorem len_TN {a : List Nat} (h : SqT K H p (vN a)) (q : Q (.int (a.length : Nat)) H) : rLenQ K [.ref p] H Q := ⟨p, _, rfl, .inr h, by rw [vN_len]; exact q⟩
theorem len_TI {a : List Int} (h : SqT K H p (vI a)) (q : Q (.int (a.length : Nat)) H) : rLenQ K [.ref p] H Q := ⟨p, _, rfl, .inr h, by rw [vI_len]; exact q⟩
theorem len_LI {a : List Int} (h : SqL K H p (vI a)) (q : Q (.int (a.length : Nat)) H) : rLenQ K [.ref p] H Q := ⟨p, _, rfl, .inl h, by rw [vI_len]; exact q⟩
theorem eq_I {i j : Int} (q : Q (.bl (decide (i = j))) H) : rEq (.int i) (.int j) H Q := ⟨rfl, by
  have e : decide (V.int i = V.int j) = decide (i = j) := by
    by_cases h : i = j
    · rw [decide_eq_true h, decide_eq_true (by rw [h])]
    · rw [decide_eq_false h, decide_eq_false (fun z => h (V.int.inj z))]
  rw [e]; exact q⟩
theorem ne_I {i j : Int} (q : Q (.bl (!decide (i = j))) H) : rNe (.int i) (.int j) H Q := ⟨rfl, by
  have e : decide (V.int i = V.int j) = decide (i = j) := by
    by_cases h : i = j
    · rw [decide_eq_true h, decide_eq_true (by rw [h])]
    · rw [decide_eq_false h, decide_eq_false (fun z => h (V.int.inj z))]
  rw [e]; exact q⟩
theorem eq_B {i j : Bool} (q : Q (.bl (i == j)) H) : rEq (.bl i) (.bl j) H Q := ⟨rfl, by
  have e : decide (V.bl i = V.bl j) = (i == j) := by cases i <;> cases j <;> decide
  rw [e]; exact q⟩
theorem ne_B {i j : Bool} (q : Q (.bl (i != j)) H) : rNe (.bl i) (.bl j) H Q := ⟨rfl, by
  have e : (!decide (V.bl i = V.bl j)) = (i != j) := by cases i <;> cases j <;> decide
  rw [e]; exact q⟩
/-- % and // by a positive number below 2 ^ 30 -/
theorem mod_I {i j : Int} (h : 0 < j) (q : Q (.int (i % j)) H) : rModI (.int i) (.int j) H Q := ⟨i, j, rfl, rfl, by omega, by show Q (.int (i.fmod j)) H; rw [fmod_pos h]; exact q⟩
theorem div_I {i j : Int} (h : 0 < j) (h2 : j < 18446744073709551616) (q : Q (.int (i / j)) H) : rDivI (.int i) (.int j) H Q := ⟨i, j, rfl, rfl, ⟨by omega, by
  have h3 : j.natAbs < 2 ^ 64 := by show j.natAbs < 18446744073709551616; omega
  have := (Nat.log2_lt (n := j.natAbs) (k := 64) (by omega)).mpr h3
  omega⟩, by show Q (.int (i.fdiv j)) H; rw [fdiv_pos h]; exact q⟩
theorem mul_I {i j : Int} (h : (-(2 ^ 64) < i ∧ i < 2 ^ 64) ∨ (-(2 ^ 64) < j ∧ j < 2 ^ 64)) (q : Q (.int (i * j)) H) : rMulI (.int i) (.int j) H Q := ⟨i, j, rfl, rfl, h, q⟩
theorem seqIx {i n : Nat} {z : Int} (e : z = (i : Int)) (h : i < n) : seqIndex? z n = some i := by
  subst e
  unfold seqIndex?
  first
    | (rw [if_neg (by omega), if_pos (by omega)]; rfl)
    | (simp; omega)
theorem eraseIdx_map' {α β : Type} (f : α → β) : ∀ (l : List α) (i : Nat), (l.map f).eraseIdx i = (l.eraseIdx i).map f
  | [], _ => rfl
  | _ :: _, 0 => rfl
  | a :: l, i + 1 => by
    show f a :: (l.map f).eraseIdx i = f a :: (l.eraseIdx i).map f
    rw [eraseIdx_map' f l i]
theorem pop_N {a : List Nat} {z : Int} {i : Nat} (h : H p = some (.lst (vN a))) (hi : i < a.length) (hz : a.length ≤ 100000) (e : z = (i : Int)) (q : Q (.int ((a.getD i 0 : Nat) : Int)) (upd H p (.lst (vN (a.eraseIdx i))))) : rPopAt (.ref p) [.int z] H Q := by
  refine ⟨p, _, z, i, _, rfl, rfl, h, by omega, by omega, seqIx e (by rw [vN_len]; exact hi), vN_at (getD_at hi), ?_⟩
  have e2 : (vN a).eraseIdx i = vN (a.eraseIdx i) := by
    show (a.map _).eraseIdx i = (a.eraseIdx i).map _
    exact eraseIdx_map' _ _ _
  rw [e2]
  exact q
theorem app_N {a : List Nat} {n : Nat} (h : H p = some (.lst (vN a))) (hz : a.length < 100000) (q : Q .non (upd H p (.lst (vN (a ++ [n]))))) : rAppend (.ref p) [.int (n : Int)] H Q :=
  ⟨p, _, _, rfl, rfl, h, by rw [vN_len]; exact zlt hz, by
    have e : vN a ++ [V.int (n : Int)] = vN (a ++ [n]) := by
      show a.map _ ++ _ = (a ++ [n]).map _
      rw [List.map_append] <;> rfl
    rw [e]; exact q⟩
theorem app_V {xs : List V} {v : V} (h : H p = some (.lst xs)) (hz : xs.length < 100000) (q : Q .non (upd H p (.lst (xs ++ [v])))) : rAppend (.ref p) [v] H Q := ⟨p, _, _, rfl, rfl, h, zlt hz, q⟩
theorem isL {xs : List V} (h : SqL K H p xs) : tyV K "list" (.ref p) H := .inl ⟨rfl, _, h⟩
theorem tup_L {xs : List V} (h : SqL K H p xs) (q : ∀ l, H l = none → Q (.ref l) (upd H l (.tup xs))) : rTupOf K [.ref p] H Q := ⟨p, xs, rfl, .inl ⟨h, q⟩⟩
end
theorem rgV_N (n : Nat) : rgV 0 (n : Int) = vN (List.range n) := by
  show (List.range ((n : Int) - 0).toNat).map _ = (List.range n).map _
  have e : ((n : Int) - 0).toNat = n := by omega
  rw [e]
  refine List.map_congr_left fun i _ => ?_
  show V.int (0 + (i : Nat)) = V.int (i : Int)
  rw [Int.zero_add]
theorem rgOk_N {n : Nat} (h : n ≤ 100000) : RgOk 0 (n : Int) := .of_le (by omega) (by omega) (by omega) (by omega)

/-! ### permutations of 0 .. n - 1 -/
/-- the numbers 0 .. n - 1 in some order -/
def IsP (n : Nat) (a : List Nat) : Prop := a.Perm (List.range n)
theorem IsP.len {n : Nat} {a : List Nat} (h : IsP n a) : a.length = n := by rw [List.Perm.length_eq h, List.length_range]
theorem IsP.lt {n : Nat} {a : List Nat} (h : IsP n a) {x : Nat} (m : x ∈ a) : x < n := List.mem_range.mp ((List.Perm.mem_iff h).mp m)
theorem IsP.mem {n : Nat} {a : List Nat} (h : IsP n a) {x : Nat} (m : x < n) : x ∈ a := (List.Perm.mem_iff h).mpr (List.mem_range.mpr m)
theorem IsP.nd {n : Nat} {a : List Nat} (h : IsP n a) : a.Nodup := (List.Perm.nodup_iff h).mpr List.nodup_range
theorem IsP.getD_lt {n : Nat} {a : List Nat} (h : IsP n a) {i : Nat} (m : i < n) : a.getD i 0 < n := by
  have e := getD_at (a := a) (i := i) (by rw [h.len]; exact m)
  exact h.lt (List.mem_of_getElem? e)
theorem nd_sub_len {α : Type} [DecidableEq α] : ∀ {a m : List α}, a.Nodup → (∀ x ∈ a, x ∈ m) → a.length ≤ m.length
  | [], _, _, _ => Nat.zero_le _
  | x :: r, m, nd, hs => by
    obtain ⟨hx, nr⟩ := List.nodup_cons.mp nd
    have hm : x ∈ m := hs x List.mem_cons_self
    have ih : r.length ≤ (m.erase x).length := nd_sub_len nr fun y hy => by
      have hne : y ≠ x := fun e => hx (by rw [← e]; exact hy)
      exact (List.mem_erase_of_ne hne).mpr (hs y (List.mem_cons_of_mem _ hy))
    rw [List.length_erase_of_mem hm] at ih
    have : 0 < m.length := List.length_pos_of_mem hm
    show r.length + 1 ≤ _
    omega
/-- a list without twice the same, as long as it is told to be within m's: all of m -/
theorem perm_of_nd_sub : ∀ {a m : List Nat}, a.Nodup → (∀ x ∈ a, x ∈ m) → m.length ≤ a.length → a.Perm m
  | [], m, _, _, hl => by
    have : m = [] := List.length_eq_zero_iff.mp (Nat.le_zero.mp hl)
    rw [this]
  | x :: r, m, nd, hs, hl => by
    obtain ⟨hx, nr⟩ := List.nodup_cons.mp nd
    have hm : x ∈ m := hs x List.mem_cons_self
    have p1 : m.Perm (x :: m.erase x) := List.perm_cons_erase hm
    have ih : r.Perm (m.erase x) := by
      refine perm_of_nd_sub nr (fun y hy => ?_) ?_
      · have hne : y ≠ x := fun e => hx (e ▸ hy)
        exact (List.mem_erase_of_ne hne).mpr (hs y (List.mem_cons_of_mem _ hy))
      · rw [List.length_erase_of_mem hm]
        have : (x :: r).length = r.length + 1 := rfl
        omega
    exact (List.Perm.cons x ih).trans p1.symm
theorem isP_of_nd {n : Nat} {a : List Nat} (nd : a.Nodup) (hl : a.length = n) (hlt : ∀ x ∈ a, x < n) : IsP n a :=
  perm_of_nd_sub nd (fun x hx => List.mem_range.mpr (hlt x hx)) (by rw [List.length_range, hl]; exact Nat.le_refl n)
theorem isP_of_all {n : Nat} {a : List Nat} (hl : a.length = n) (h : ∀ k, k < n → k ∈ a) : IsP n a :=
  (perm_of_nd_sub List.nodup_range (fun x hx => h x (List.mem_range.mp hx)) (by rw [List.length_range, hl]; exact Nat.le_refl n)).symm

/-! ### joined and turned -/
def jn (a b : List Nat) : List Nat := a.map fun k => b.getD k 0
theorem jn_len (a b : List Nat) : (jn a b).length = a.length := List.length_map ..
theorem jn_get {a b : List Nat} {i : Nat} (h : i < a.length) : (jn a b).getD i 0 = b.getD (a.getD i 0) 0 := by
  unfold jn
  rw [List.getD_eq_getElem?_getD, List.getElem?_map, getD_at h] <;> rfl
theorem ext_getD {a b : List Nat} (hl : a.length = b.length) (h : ∀ i, i < a.length → a.getD i 0 = b.getD i 0) : a = b := by
  refine List.ext_getElem? fun i => ?_
  by_cases hi : i < a.length
  · rw [getD_at hi, getD_at (hl ▸ hi), h i hi]
  · rw [List.getElem?_eq_none (by omega), List.getElem?_eq_none (by omega)]
theorem nd_getD {a : List Nat} (nd : a.Nodup) {i j : Nat} (hi : i < a.length) (hj : j < a.length) (e : a.getD i 0 = a.getD j 0) : i = j := nd_ix nd (getD_at hi) (by rw [getD_at hj, e])
theorem nd_of_getD {a : List Nat} (h : ∀ i j, i < a.length → j < a.length → a.getD i 0 = a.getD j 0 → i = j) : a.Nodup := by
  refine List.pairwise_iff_getElem.mpr fun i j hi hj hij e => ?_
  have := h i j hi hj (by rw [List.getD_eq_getElem?_getD, List.getD_eq_getElem?_getD, List.getElem?_eq_getElem hi, List.getElem?_eq_getElem hj, e])
  omega
theorem isP_jn {n : Nat} {a b : List Nat} (ha : IsP n a) (hb : IsP n b) : IsP n (jn a b) := by
  refine isP_of_nd (nd_of_getD fun i j hi hj e => ?_) (by rw [jn_len, ha.len]) fun x hx => ?_
  · rw [jn_len] at hi hj
    rw [jn_get hi, jn_get hj] at e
    have hi' : a.getD i 0 < b.length := by rw [hb.len]; exact ha.getD_lt (by rw [← ha.len]; exact hi)
    have hj' : a.getD j 0 < b.length := by rw [hb.len]; exact ha.getD_lt (by rw [← ha.len]; exact hj)
    exact nd_getD ha.nd hi hj (nd_getD hb.nd hi' hj' e)
  · obtain ⟨k, hk, rfl⟩ := List.mem_map.mp hx
    exact hb.getD_lt (ha.lt hk)
theorem isP_id (n : Nat) : IsP n (List.range n) := List.Perm.refl _
/-- the way back as the program makes it -/
def trnSt (a : List Nat) (k : Nat) : List Nat := (List.range k).foldl (fun row i => row.set (a.getD i 0) i) (List.replicate a.length 0)
def trn (a : List Nat) : List Nat := trnSt a a.length
theorem trnSt_succ (a : List Nat) (k : Nat) : trnSt a (k + 1) = (trnSt a k).set (a.getD k 0) k := by
  unfold trnSt
  rw [List.range_succ, List.foldl_append] <;> rfl
theorem trnSt_len (a : List Nat) : ∀ k, (trnSt a k).length = a.length
  | 0 => List.length_replicate
  | k + 1 => by rw [trnSt_succ, List.length_set, trnSt_len a k]
theorem trnSt_get {n : Nat} {a : List Nat} (h : IsP n a) : ∀ k, k ≤ n → ∀ i, i < k → (trnSt a k).getD (a.getD i 0) 0 = i
  | 0, _, i, hi => absurd hi (Nat.not_lt_zero i)
  | k + 1, hk, i, hi => by
    have hka : k < a.length := by rw [h.len]; omega
    rw [trnSt_succ, List.getD_eq_getElem?_getD]
    by_cases e : i = k
    · subst e
      rw [List.getElem?_set_self (by rw [trnSt_len, h.len]; exact h.getD_lt (by omega))] <;> rfl
    · have hne : a.getD k 0 ≠ a.getD i 0 := fun z => e (nd_getD h.nd (by omega) hka z.symm)
      rw [List.getElem?_set_ne hne, ← List.getD_eq_getElem?_getD]
      exact trnSt_get h k (by omega) i (by omega)
theorem trn_len (a : List Nat) : (trn a).length = a.length := trnSt_len a _
theorem trn_get {n : Nat} {a : List Nat} (h : IsP n a) {i : Nat} (hi : i < n) : (trn a).getD (a.getD i 0) 0 = i := trnSt_get h a.length (by rw [h.len]; exact Nat.le_refl n) i (by rw [h.len]; exact hi)
theorem isP_get_of {n : Nat} {a : List Nat} (h : IsP n a) {x : Nat} (hx : x < n) : ∃ i, i < n ∧ a.getD i 0 = x := by
  obtain ⟨i, hi, e⟩ := List.getElem_of_mem (h.mem hx)
  refine ⟨i, by rw [← h.len]; exact hi, ?_⟩
  rw [List.getD_eq_getElem?_getD, List.getElem?_eq_getElem hi, e] <;> rfl
theorem isP_trn {n : Nat} {a : List Nat} (h : IsP n a) : IsP n (trn a) := by
  refine isP_of_all (by rw [trn_len, h.len]) fun k hk => ?_
  have e := trn_get h hk
  have hl : a.getD k 0 < (trn a).length := by rw [trn_len, h.len]; exact h.getD_lt hk
  have m := List.mem_of_getElem? (getD_at hl)
  rw [e] at m
  exact m
theorem trn_get' {n : Nat} {a : List Nat} (h : IsP n a) {x : Nat} (hx : x < n) : a.getD ((trn a).getD x 0) 0 = x := by
  obtain ⟨i, hi, e⟩ := isP_get_of h hx
  rw [← e, trn_get h hi]
theorem jn_trn {n : Nat} {a : List Nat} (h : IsP n a) : jn a (trn a) = List.range n := by
  refine ext_getD (by rw [jn_len, h.len, List.length_range]) fun i hi => ?_
  rw [jn_len] at hi
  have hi' : i < n := by rw [← h.len]; exact hi
  rw [jn_get hi, trn_get h hi', List.getD_eq_getElem?_getD, List.getElem?_range hi'] <;> rfl
theorem trn_jn {n : Nat} {a : List Nat} (h : IsP n a) : jn (trn a) a = List.range n := by
  refine ext_getD (by rw [jn_len, trn_len, h.len, List.length_range]) fun i hi => ?_
  rw [jn_len, trn_len] at hi
  have hi' : i < n := by rw [← h.len]; exact hi
  rw [jn_get (by rw [trn_len]; exact hi), trn_get' h hi', List.getD_eq_getElem?_getD, List.getElem?_range hi'] <;> rfl
theorem range_getD {n i : Nat} (h : i < n) : (List.range n).getD i 0 = i := by rw [List.getD_eq_getElem?_getD, List.getElem?_range h] <;> rfl
theorem jn_id {n : Nat} {a : List Nat} (h : ∀ x ∈ a, x < n) : jn a (List.range n) = a := by
  unfold jn
  conv => rhs; rw [← List.map_id a]
  exact List.map_congr_left fun x hx => range_getD (h x hx)
theorem id_jn (a : List Nat) : jn (List.range a.length) a = a := by
  refine ext_getD (by rw [jn_len, List.length_range]) fun i hi => ?_
  rw [jn_len, List.length_range] at hi
  rw [jn_get (by rw [List.length_range]; exact hi), range_getD hi]
theorem jn_assoc {a b c : List Nat} (h : ∀ x ∈ a, x < b.length) : jn (jn a b) c = jn a (jn b c) := by
  unfold jn
  rw [List.map_map]
  refine List.map_congr_left fun x hx => ?_
  show c.getD (b.getD x 0) 0 = (jn b c).getD x 0
  rw [jn_get (h x hx)]
/-- a seating -/
def SeatB (a : List Int) : Bool := decide (1 ≤ a.length) && decide (a.length ≤ 16) && (List.range a.length).all fun k => decide ((k : Int) ∈ a)
theorem seatB_N {n : Nat} {a : List Nat} (h : IsP n a) (h1 : 1 ≤ n) (h2 : n ≤ 16) : SeatB (a.map fun (x : Nat) => (x : Int)) = true := by
  unfold SeatB
  rw [List.length_map, h.len, decide_eq_true h1, decide_eq_true h2]
  refine List.all_eq_true.mpr fun k hk => decide_eq_true ?_
  exact List.mem_map.mpr ⟨k, h.mem (List.mem_range.mp hk), rfl⟩
theorem seatB_is {a : List Int} (h : SeatB a = true) : ∃ b : List Nat, IsP a.length b ∧ a = b.map (fun (x : Nat) => (x : Int)) ∧ 1 ≤ a.length ∧ a.length ≤ 16 := by
  unfold SeatB at h
  rw [Bool.and_eq_true, Bool.and_eq_true] at h
  obtain ⟨⟨h1, h2⟩, h3⟩ := h
  have h3 := List.all_eq_true.mp h3
  have hin : ∀ k, k < a.length → k ∈ a.map Int.toNat := fun k hk => by
    have q := of_decide_eq_true (h3 k (List.mem_range.mpr hk))
    exact List.mem_map.mpr ⟨_, q, by omega⟩
  have P : IsP a.length (a.map Int.toNat) := isP_of_all (List.length_map ..) hin
  have nn : ∀ x ∈ a, 0 ≤ x := by
    -- were one below nought, its place would be free for none of 0 .. n - 1
    have hall : ∀ k, k < a.length → (k : Int) ∈ a := fun k hk => of_decide_eq_true (h3 k (List.mem_range.mpr hk))
    have : (List.range a.length).map (fun (x : Nat) => (x : Int)) |>.Nodup := by
      refine List.pairwise_map.mpr (List.Pairwise.imp (fun hne e => hne (Int.ofNat.inj e)) (List.nodup_range (n := a.length)))
    intro x hx
    refine Decidable.byContradiction fun hneg => ?_
    have hsub : ∀ y ∈ (List.range a.length).map (fun (x : Nat) => (x : Int)), y ∈ a.erase x := fun y hy => by
      obtain ⟨k, hk, e⟩ := List.mem_map.mp hy
      have hne : y ≠ x := fun z => by
        have : (k : Int) = x := e.trans z
        omega
      refine (List.mem_erase_of_ne hne).mpr ?_
      rw [← e]
      exact hall k (List.mem_range.mp hk)
    have hle := nd_sub_len this hsub
    rw [List.length_map, List.length_range, List.length_erase_of_mem hx] at hle
    have : 0 < a.length := List.length_pos_of_mem hx
    omega
  refine ⟨a.map Int.toNat, P, ?_, of_decide_eq_true h1, of_decide_eq_true h2⟩
  rw [List.map_map]
  conv => lhs; rw [← List.map_id a]
  exact List.map_congr_left fun x hx => by
    show x = ((x.toNat : Nat) : Int)
    have := nn x hx
    omega
/-! ### data as a whole -/
section
variable {K : PySem.W.Frag} {H : Hp} {Q : VK} {p q : Addr}
theorem dpAll_of : ∀ {xs : List V} {ds : List PyData}, (∀ (i : Nat) (x : V) (d : PyData), xs[i]? = some x → ds[i]? = some d → Dp K H x d) → xs.length = ds.length → DpAll K H xs ds
  | [], [], _, _ => .nil
  | [], _ :: _, _, h => by simp at h
  | _ :: _, [], _, h => by simp at h
  | x :: xs, d :: ds, h, hl => .cons (h 0 x d rfl rfl) (dpAll_of (fun i y e h1 h2 => h (i + 1) y e (by simpa using h1) (by simpa using h2)) (by simpa using hl))
theorem dpAll_I : ∀ (a : List Int), DpAll K H (vI a) (a.map PyData.int)
  | [] => .nil
  | x :: r => .cons (.int x) (dpAll_I r)
def dT (a : List Int) : PyData := .tuple (a.map PyData.int)
def dL (a : List Int) : PyData := .list (a.map PyData.int)
theorem dp_T {a : List Int} (h : SqT K H p (vI a)) : Dp K H (.ref p) (dT a) := .tup h (dpAll_I a)
theorem dp_L {a : List Int} (h : SqL K H p (vI a)) : Dp K H (.ref p) (dL a) := .lst h (dpAll_I a)
theorem eqvAll_map {α : Type} [DecidableEq α] {f : α → PyData} (h : ∀ x y, PyData.eqv (f x) (f y) = decide (x = y)) : ∀ (a b : List α), PyData.eqvAll (a.map f) (b.map f) = decide (a = b)
  | [], [] => by rw [decide_eq_true rfl] <;> simp [PyData.eqvAll]
  | [], _ :: _ => by rw [decide_eq_false (fun z => by cases z)] <;> simp [PyData.eqvAll]
  | _ :: _, [] => by rw [decide_eq_false (fun z => by cases z)] <;> simp [PyData.eqvAll]
  | x :: a, y :: b => by
    show PyData.eqvAll (f x :: a.map f) (f y :: b.map f) = _
    unfold PyData.eqvAll
    rw [h, eqvAll_map h a b]
    by_cases e : x = y
    · subst e
      by_cases e2 : a = b
      · subst e2; simp
      · rw [decide_eq_false e2, Bool.and_false, decide_eq_false (fun z => e2 (List.cons.inj z).2)]
    · rw [decide_eq_false e, Bool.false_and, decide_eq_false (fun z => e (List.cons.inj z).1)]
theorem eqv_int (x y : Int) : PyData.eqv (.int x) (.int y) = decide (x = y) := by
  unfold PyData.eqv
  by_cases e : x = y
  · subst e; simp
  · rw [decide_eq_false e]; simpa using e
theorem eqv_T (a b : List Int) : PyData.eqv (dT a) (dT b) = decide (a = b) := by
  unfold dT PyData.eqv
  exact eqvAll_map eqv_int a b
theorem eqv_L (a b : List Int) : PyData.eqv (dL a) (dL b) = decide (a = b) := by
  unfold dL PyData.eqv
  exact eqvAll_map eqv_int a b
theorem canAll_map {α : Type} {f : α → PyData} (h : ∀ x, (f x).canLay0 = true) : ∀ (a : List α), PyData.canLayAll0 (a.map f) = true
  | [] => by simp [PyData.canLayAll0]
  | x :: a => by
    show PyData.canLayAll0 (f x :: a.map f) = true
    unfold PyData.canLayAll0
    rw [h x, canAll_map h a] <;> rfl
theorem depthAll_map {α : Type} {f : α → PyData} {n : Nat} (h : ∀ x, (f x).depth ≤ n) : ∀ (a : List α), PyData.depthAll (a.map f) ≤ n
  | [] => by simp [PyData.depthAll]
  | x :: a => by
    show PyData.depthAll (f x :: a.map f) ≤ n
    have h1 := h x
    have h2 := depthAll_map h a
    unfold PyData.depthAll
    omega
theorem can_T (a : List Int) : (dT a).canLay0 = true := by
  unfold dT PyData.canLay0
  exact canAll_map (fun x => by simp [PyData.canLay0]) a
theorem can_L (a : List Int) : (dL a).canLay0 = true := by
  unfold dL PyData.canLay0
  exact canAll_map (fun x => by simp [PyData.canLay0]) a
theorem dep_T (a : List Int) : (dT a).depth ≤ 1 := by
  unfold dT PyData.depth
  have := depthAll_map (f := PyData.int) (n := 0) (fun x => by simp [PyData.depth]) a
  omega
theorem dep_L (a : List Int) : (dL a).depth ≤ 1 := by
  unfold dL PyData.depth
  have := depthAll_map (f := PyData.int) (n := 0) (fun x => by simp [PyData.depth]) a
  omega
theorem shp {d : PyData} (h : d.canLay0 = true) (h2 : d.depth ≤ 64) : SeqAt.shaped d = true := by
  unfold SeqAt.shaped
  rw [h, decide_eq_true h2] <;> rfl
theorem shp_T (a : List Int) : SeqAt.shaped (dT a) = true := shp (can_T a) (by have := dep_T a; omega)
theorem shp_L (a : List Int) : SeqAt.shaped (dL a) = true := shp (can_L a) (by have := dep_L a; omega)
theorem eq_TI {a b : List Int} (ha : SqT K H p (vI a)) (hb : SqT K H q (vI b)) (k : Q (.bl (decide (a = b))) H) : rEqD K (.ref p) (.ref q) H Q := ⟨dT a, dT b, dp_T ha, dp_T hb, shp_T a, shp_T b, by rw [eqv_T]; exact k⟩
theorem ne_TI {a b : List Int} (ha : SqT K H p (vI a)) (hb : SqT K H q (vI b)) (k : Q (.bl (!decide (a = b))) H) : rNeD K (.ref p) (.ref q) H Q := ⟨dT a, dT b, dp_T ha, dp_T hb, shp_T a, shp_T b, by rw [eqv_T]; exact k⟩
theorem vInj {a b : List Nat} : (a.map (fun (x : Nat) => (x : Int)) = b.map (fun (x : Nat) => (x : Int))) ↔ a = b := by
  constructor
  · intro h
    have e := congrArg (List.map Int.toNat) h
    rw [List.map_map, List.map_map] at e
    have i : (Int.toNat ∘ fun (x : Nat) => (x : Int)) = id := by funext x; rfl
    rw [i, List.map_id, List.map_id] at e
    exact e
  · intro h; rw [h]
theorem dec_iff {p q : Prop} [Decidable p] [Decidable q] (h : p ↔ q) : decide p = decide q := by
  by_cases hp : p
  · rw [decide_eq_true hp, decide_eq_true (h.mp hp)]
  · rw [decide_eq_false hp, decide_eq_false (fun z => hp (h.mpr z))]
theorem eq_TN {a b : List Nat} (ha : SqT K H p (vN a)) (hb : SqT K H q (vN b)) (k : Q (.bl (decide (a = b))) H) : rEqD K (.ref p) (.ref q) H Q := by
  rw [vN_eq] at ha hb
  refine eq_TI ha hb ?_
  rw [dec_iff vInj]
  exact k
theorem ne_TN {a b : List Nat} (ha : SqT K H p (vN a)) (hb : SqT K H q (vN b)) (k : Q (.bl (!decide (a = b))) H) : rNeD K (.ref p) (.ref q) H Q := by
  rw [vN_eq] at ha hb
  refine ne_TI ha hb ?_
  rw [dec_iff vInj]
  exact k
theorem set_N {a : List Nat} {z : Int} {i n : Nat} {R : Hp → Prop} (h : H p = some (.lst (vN a))) (hi : i < a.length) (e : z = (i : Int)) (k : R (upd H p (.lst (vN (a.set i n))))) : rSetL (.ref p) (.int z) (.int (n : Int)) H R := by
  refine ⟨p, _, z, i, rfl, rfl, h, ?_, ?_⟩
  · unfold ixN
    rw [vN_len, if_pos (by omega), if_pos (by omega), e] <;> rfl
  · have e2 : (vN a).set i (V.int (n : Int)) = vN (a.set i n) := by
      show (a.map _).set i _ = (a.set i n).map _
      rw [List.map_set]
    rw [e2]
    exact k
theorem rep_0 {n : Nat} (hn : n ≤ 100000) (h : H p = some (.lst [V.int 0])) (k : ∀ l, H l = none → Q (.ref l) (upd H l (.lst (vN (List.replicate n 0))))) : rRep (.ref p) (.int (n : Int)) H Q := by
  refine ⟨p, _, _, rfl, rfl, h, by omega, by omega, zl (by show 1 * ((n : Int)).toNat ≤ 100000; omega), fun l hl => ?_⟩
  have e : (List.replicate ((n : Int)).toNat [V.int 0]).flatten = vN (List.replicate n 0) := by
    show (List.replicate n [V.int 0]).flatten = (List.replicate n 0).map _
    rw [List.map_replicate]
    clear k hl
    induction n with
    | zero => rfl
    | succ m ih => rw [List.replicate_succ, List.flatten_cons, ih (by omega), List.replicate_succ] <;> rfl
  rw [e]
  exact k l hl
end
theorem if_nd {c : Prop} [Decidable c] {A B : Prop} (h1 : ¬ c → A) (h2 : c → B) : if (!decide c) = true then A else B := by
  by_cases h : c
  · rw [decide_eq_true h]; exact if_f rfl (h2 h)
  · rw [decide_eq_false h]; exact if_t rfl (h1 h)
theorem if_nb {c : Bool} {A B : Prop} (h1 : c = false → A) (h2 : c = true → B) : if (!c) = true then A else B := by
  cases c with
  | true => exact if_f rfl (h2 rfl)
  | false => exact if_t rfl (h1 rfl)
theorem take_more {α : Type} {l : List α} {i : Nat} {x : α} (h : l[i]? = some x) : l.take (i + 1) = l.take i ++ [x] := by
  rw [List.take_add_one, h] <;> rfl
theorem vN_get {a : List Nat} {i : Nat} {x : V} (h : (vN a)[i]? = some x) : ∃ n, a[i]? = some n ∧ x = V.int (n : Int) := by
  have h : (a.map fun (n : Nat) => V.int (n : Int))[i]? = some x := h
  rw [List.getElem?_map] at h
  cases e : a[i]? with
  | none => rw [e] at h; cases h
  | some n => rw [e] at h; exact ⟨n, rfl, (Option.some.inj h).symm⟩
theorem vN_app (a : List Nat) (n : Nat) : vN a ++ [V.int (n : Int)] = vN (a ++ [n]) := by
  show a.map _ ++ _ = (a ++ [n]).map _
  rw [List.map_append] <;> rfl
theorem rangeS {α : Type} (f : Nat → α) (j : Nat) : (List.range (j + 1)).map f = (List.range j).map f ++ [f j] := by rw [List.range_succ, List.map_append] <;> rfl
end Shf

local macro_rules | `(tactic| walk_at "ex") => `(tactic| repeat (with_reducible first
  | refine Shf.w_op ?_ | refine Shf.w_c ?_
  | (show L2.tVar _ _ _ _; with_unfolding_all refine Shf.w_var rfl ?_)
  | refine Shf.w_nil ?_ | refine Shf.w_cons ?_ | refine Shf.w_cb ?_ | refine Shf.w_call ?_ | refine Shf.w_test ?_ | refine Shf.w_b ?_ | refine Shf.w_bex ?_
  | refine Shf.w_and ?_ | refine Shf.w_or ?_ | refine Shf.w_not ?_ | refine Shf.w_andV ?_ | refine Shf.w_orV ?_ | refine Shf.w_notV ?_ | refine Shf.w_ife ?_
  | refine Shf.w_add ?_ | refine Shf.w_sub ?_ | refine Shf.w_neg ?_ | refine Shf.w_lt ?_ | refine Shf.w_le ?_ | refine Shf.w_gt ?_ | refine Shf.w_ge ?_ | refine Shf.eq_I ?_ | refine Shf.ne_I ?_ | refine Shf.eq_B ?_ | refine Shf.ne_B ?_
  | refine Shf.w_tup ?_ | refine Shf.w_lst ?_ | refine Shf.w_lrg ?_ | refine Shf.w_trg ?_ | refine Shf.w_rg1 ?_ | refine Shf.w_iex ?_ | refine Shf.w_bm ?_ | refine Shf.w_bm0 ?_ | refine Shf.w_un ?_ | refine Shf.w_fld ?_ | refine Shf.w_dget ?_ | refine Shf.w_dget1 ?_ | refine Shf.w_meth ?_ | refine Shf.w_make ?_
  | refine Shf.w_yes ?_ | refine L2.iteT ?_ | refine L2.iteF ?_ | refine Shf.w_irng1 ?_ | refine Shf.w_irng2 ?_ | refine Shf.w_ilist ?_ | refine Shf.w_itup ?_))
local macro_rules | `(tactic| walk_at "st") => `(tactic| with_reducible first | refine Shf.w_asg ?_ | refine Shf.w_drop ?_ | refine Shf.w_ret ?_ | refine Shf.w_next ?_ | refine Shf.w_asgS ?_ | refine Shf.w_sfld ?_ | refine Shf.w_for ?_ | refine Shf.w_if ?_)
local macro_rules | `(tactic| walk_at "sq") => `(tactic| with_reducible refine Shf.w_seq ?_)
local macro_rules | `(tactic| walk_at "re") => `(tactic| repeat (with_reducible first
  | refine Shf.w_asg ?_ | refine Shf.w_drop ?_ | refine Shf.w_ret ?_ | refine Shf.w_next ?_ | refine Shf.w_op ?_ | refine Shf.w_c ?_
  | (show L2.tVar _ _ _ _; with_unfolding_all refine Shf.w_var rfl ?_)
  | refine Shf.w_nil ?_ | refine Shf.w_cons ?_ | refine Shf.w_cb ?_ | refine Shf.w_call ?_ | refine Shf.w_test ?_ | refine Shf.w_b ?_ | refine Shf.w_bex ?_
  | refine Shf.w_and ?_ | refine Shf.w_or ?_ | refine Shf.w_not ?_ | refine Shf.w_andV ?_ | refine Shf.w_orV ?_ | refine Shf.w_notV ?_ | refine Shf.w_ife ?_
  | refine Shf.w_add ?_ | refine Shf.w_sub ?_ | refine Shf.w_neg ?_ | refine Shf.w_lt ?_ | refine Shf.w_le ?_ | refine Shf.w_gt ?_ | refine Shf.w_ge ?_ | refine Shf.eq_I ?_ | refine Shf.ne_I ?_ | refine Shf.eq_B ?_ | refine Shf.ne_B ?_
  | refine Shf.w_tup ?_ | refine Shf.w_lst ?_ | refine Shf.w_lrg ?_ | refine Shf.w_trg ?_ | refine Shf.w_rg1 ?_ | refine Shf.w_iex ?_ | refine Shf.w_bm ?_ | refine Shf.w_bm0 ?_ | refine Shf.w_un ?_ | refine Shf.w_asgS ?_ | refine Shf.w_fld ?_ | refine Shf.w_sfld ?_ | refine Shf.w_dget ?_ | refine Shf.w_dget1 ?_ | refine Shf.w_meth ?_ | refine Shf.w_make ?_
  | refine Shf.w_yes ?_ | refine L2.iteT ?_ | refine L2.iteF ?_ | refine Shf.w_irng1 ?_ | refine Shf.w_irng2 ?_ | refine Shf.w_ilist ?_ | refine Shf.w_itup ?_))
local macro_rules | `(tactic| walk_at "rd") => `(tactic| repeat (with_reducible first
  | refine Shf.w_seq ?_ | refine Shf.w_if ?_ | refine Shf.w_asg ?_ | refine Shf.w_drop ?_ | refine Shf.w_ret ?_ | refine Shf.w_next ?_ | refine Shf.w_op ?_ | refine Shf.w_c ?_
  | (show L2.tVar _ _ _ _; with_unfolding_all refine Shf.w_var rfl ?_)
  | refine Shf.w_nil ?_ | refine Shf.w_cons ?_ | refine Shf.w_cb ?_ | refine Shf.w_call ?_ | refine Shf.w_test ?_ | refine Shf.w_b ?_ | refine Shf.w_bex ?_
  | refine Shf.w_and ?_ | refine Shf.w_or ?_ | refine Shf.w_not ?_ | refine Shf.w_andV ?_ | refine Shf.w_orV ?_ | refine Shf.w_notV ?_ | refine Shf.w_ife ?_
  | refine Shf.w_add ?_ | refine Shf.w_sub ?_ | refine Shf.w_neg ?_ | refine Shf.w_lt ?_ | refine Shf.w_le ?_ | refine Shf.w_gt ?_ | refine Shf.w_ge ?_ | refine Shf.eq_I ?_ | refine Shf.ne_I ?_ | refine Shf.eq_B ?_ | refine Shf.ne_B ?_
  | refine Shf.w_tup ?_ | refine Shf.w_lst ?_ | refine Shf.w_lrg ?_ | refine Shf.w_trg ?_ | refine Shf.w_rg1 ?_ | refine Shf.w_iex ?_ | refine Shf.w_bm ?_ | refine Shf.w_bm0 ?_ | refine Shf.w_un ?_ | refine Shf.w_asgS ?_ | refine Shf.w_fld ?_ | refine Shf.w_sfld ?_ | refine Shf.w_dget ?_ | refine Shf.w_dget1 ?_ | refine Shf.w_meth ?_ | refine Shf.w_make ?_
  | refine Shf.w_yes ?_ | refine L2.iteT ?_ | refine L2.iteF ?_ | refine Shf.w_for ?_ | refine Shf.w_irng1 ?_ | refine Shf.w_irng2 ?_ | refine Shf.w_ilist ?_ | refine Shf.w_itup ?_))
/-! the seats: is_seating .. back; the laws' common helpers -/
namespace Shf
open PySem L2
def sp_law (K : PySem.W.Frag) : Sp := fun vs H Q _ => ∃ (a : Addr) (ns : List Int), vs = [.ref a] ∧ SqL K H a (ns.map V.int) ∧ ns.length ≤ 63 ∧ ∀ H', Q (.bl true) H'
theorem len_law (K : PySem.W.Frag) (g : Gd) (vs : List V) (H : Hp) (Q : VK) (E : XK) (h : sp_law K vs H Q E) : vs.length = 1 := by obtain ⟨_, _, rfl, _⟩ := h; rfl
/-- the reading of a def's body -/
abbrev Rd1 (t : TS) (N : List Str) (vs : List V) (H : Hp) (Q : VK) : Prop := t { nx := fun _ H' => Q .non H', rt := Q } (start N vs) H
/-- membership of an int in a list of ints -/
theorem inV_I (x : Int) (a : List Int) : inV (V.int x) (vI a) = decide (x ∈ a) := by
  unfold inV
  rw [List.any_map]
  induction a with
  | nil => rfl
  | cons y r ih =>
    rw [List.any_cons, ih]
    show (eqV (V.int y) (V.int x) || _) = _
    by_cases e : x = y
    · subst e
      have : eqV (V.int x) (V.int x) = true := by simp [eqV]
      rw [this, decide_eq_true (List.mem_cons_self)] <;> rfl
    · have : eqV (V.int y) (V.int x) = false := by simp [eqV]; exact fun z => e z.symm
      rw [this, Bool.false_or]
      by_cases m : x ∈ r
      · rw [decide_eq_true m, decide_eq_true (List.mem_cons_of_mem _ m)]
      · rw [decide_eq_false m, decide_eq_false (fun z => by rcases List.mem_cons.mp z with z | z; exact e z; exact m z)]
theorem flat_I (a : List Int) : (vI a).all flatV = true := by
  rw [List.all_map]
  exact List.all_eq_true.mpr fun _ _ => rfl
section
variable {K : PySem.W.Frag} {H : Hp} {Q : VK} {p : Addr}
theorem in_TI {a : List Int} {x : Int} (h : SqT K H p (vI a)) (k : Q (.bl (decide (x ∈ a))) H) : rIn K false (.int x) (.ref p) H Q := ⟨p, _, rfl, .inr h, rfl, flat_I a, by rw [inV_I]; exact k⟩
theorem notin_TI {a : List Int} {x : Int} (h : SqT K H p (vI a)) (k : Q (.bl (!decide (x ∈ a))) H) : rIn K true (.int x) (.ref p) H Q := ⟨p, _, rfl, .inr h, rfl, flat_I a, by rw [inV_I]; exact k⟩
theorem in_LI {a : List Int} {x : Int} (h : SqL K H p (vI a)) (k : Q (.bl (decide (x ∈ a))) H) : rIn K false (.int x) (.ref p) H Q := ⟨p, _, rfl, .inl h, rfl, flat_I a, by rw [inV_I]; exact k⟩
theorem notin_LI {a : List Int} {x : Int} (h : SqL K H p (vI a)) (k : Q (.bl (!decide (x ∈ a))) H) : rIn K true (.int x) (.ref p) H Q := ⟨p, _, rfl, .inl h, rfl, flat_I a, by rw [inV_I]; exact k⟩
end
theorem set_I {H : Hp} {p : Addr} {a : List Int} {z n : Int} {i : Nat} {R : Hp → Prop} (h : H p = some (.lst (vI a))) (hi : i < a.length) (e : z = (i : Int)) (k : R (upd H p (.lst (vI (a.set i n))))) : rSetL (.ref p) (.int z) (.int n) H R := by
  refine ⟨p, _, z, i, rfl, rfl, h, ?_, ?_⟩
  · unfold ixN
    rw [vI_len, if_pos (by omega), if_pos (by omega), e] <;> rfl
  · have e2 : (vI a).set i (V.int n) = vI (a.set i n) := by
      show (a.map _).set i _ = (a.set i n).map _
      rw [List.map_set]
    rw [e2]
    exact k
theorem pow_10 {H : Hp} {Q : VK} {n : Nat} (hn : n ≤ 1000) (k : Q (.int (10 ^ n)) H) : rPowI (.int 10) (.int (n : Int)) H Q := ⟨10, n, rfl, rfl, ⟨by omega, by omega, by decide⟩, k⟩
theorem is_bl {K : PySem.W.Frag} {H : Hp} {Q : VK} {b : Bool} (k : Q (.bl true) H) : rIsi K [.bl b, .ty "bool"] H Q := ⟨_, _, .type "bool", _, true, rfl, .ty "bool", .base (.bl b), kit_ty (by decide +kernel), k⟩
theorem is_lst {K : PySem.W.Frag} {H : Hp} {Q : VK} {p : Addr} {xs : List V} (h : H p = some (.lst xs)) (k : Q (.bl true) H) : rIsi K [.ref p, .ty "list"] H Q :=
  ⟨_, _, .type "list", _, true, rfl, .ty "list", .base (.lst h), kit_ty (by decide +kernel), k⟩
theorem is_bool {K : PySem.W.Frag} {H : Hp} {Q : VK} {b : Bool} (k : Q (.bl true) H) : rIsi K [.bl b, .ty "bool"] H Q := ⟨_, _, .type "bool", _, true, rfl, .ty "bool", .base (.bl b), kit_ty (by decide +kernel), k⟩
theorem is_tup {K : PySem.W.Frag} {H : Hp} {Q : VK} {p : Addr} {xs : List V} (h : H p = some (.tup xs)) (k : Q (.bl true) H) : rIsi K [.ref p, .ty "tuple"] H Q :=
  ⟨_, _, .type "tuple", _, true, rfl, .ty "tuple", .base (.tup h), kit_ty (by decide +kernel), k⟩
theorem is_str {K : PySem.W.Frag} {H : Hp} {Q : VK} {b : Str} (k : Q (.bl true) H) : rIsi K [.str b, .ty "str"] H Q := ⟨_, _, .type "str", _, true, rfl, .ty "str", .base (.str b), kit_ty (by decide +kernel), k⟩
theorem ix_lastV' {K : PySem.W.Frag} {H : Hp} {Q : VK} {p : Addr} {xs : List V} {v : V} {z : Int} (h : SqL K H p (xs ++ [v])) (e : z = -1) (q : Q v H) : rIxL K (.ref p) (.int z) H Q := by
  subst e
  exact ⟨p, _, _, _, rfl, rfl, h, atI_last _ _, q⟩
theorem _root_.L2.Same.lst {K : PySem.W.Frag} {H H' : Hp} {a : Addr} {xs : List V} (e : Same H H') (h : SqL K H a xs) : SqL K H' a xs := e.seq h
theorem w_lc {wi : TI} {g : TG} {tt : TT} {te : TE} {vs : List Nat} {σ : L2.St} {H : Hp} {Q : VK} (h : wi σ H fun J H1 => ∀ D, H1 D = none → ∃ W : Nat → Nat → Hp → Prop, (∃ m, W 0 m (upd H1 D (.lst []))) ∧ ∀ i m H, W i m H →
  (J.stop i H ∧ Q (.ref D) H) ∨ (J.go i H ∧ ∃ Nx : Hp → Prop, (∀ H', Nx H' → ∃ m', m' < m ∧ W (i + 1) m' H') ∧ ∀ x H', J.yld i H x H' → g x (wipe σ vs) H' fun σ2 H2 => wipe σ2 vs = wipe σ vs ∧ tt σ2 H2 fun b H3 =>
    if b = true then te σ2 H3 fun y H4 => ∃ acc, H4 D = some (.lst acc) ∧ acc.length < sizeLine ∧ Nx (upd H4 D (.lst (acc ++ [y]))) else Nx H3)) : tLc wi g tt te vs σ H Q := h
def sp_L_cell_at (K : PySem.W.Frag) (g : Gd) : Sp := fun vs H Q _ => ∃ (a : Addr) (ns : List Int) (j : Nat), vs = [.ref a, .int (j : Int)] ∧ SqL K H a (vI ns) ∧ Q (.int (ns.getD j 0)) H
theorem len_L_cell_at (K : PySem.W.Frag) (g : Gd) (vs : List V) (H : Hp) (Q : VK) (E : XK) (h : sp_L_cell_at K g vs H Q E) : vs.length = 2 := by obtain ⟨_, _, _, rfl, _⟩ := h; rfl
abbrev N_L_cell_at : List Str := ["script", "k"]
/-- _law_cell_at -/
def t_L_cell_at (K : PySem.W.Frag) (g : Gd) (E : XK) : TS :=
  (tSeq (tIfS (tTest (tOp rLtI (tVar 1) (tCB (rLenQ K) (tCons (tVar 0) tNil)))) (tRet (tOp (rIxL K) (tVar 0) (tVar 1))) tNext)
    (tRet (tC (.int 0))))
theorem pure_L_cell_at {K : PySem.W.Frag} {g : Gd} (vs : List V) (H : Hp) (Q : VK) (E : XK) (h : sp_L_cell_at K g vs H Q E) : Rd1 (t_L_cell_at K g E) N_L_cell_at vs H Q := by
  obtain ⟨a, ns, j, rfl, hS, k⟩ := h
  unfold t_L_cell_at
  walk_at "rd"
  refine len_LI hS ?_
  walk_at "rd"
  refine if_d (fun c => ?_) (fun c => ?_)
  · walk_at "rd"
    have hj : j < ns.length := by omega
    refine ix_L (i := j) (v := .int (ns.getD j 0)) hS (vI_at ?_) rfl k
    rw [List.getD_eq_getElem?_getD, List.getElem?_eq_getElem hj] <;> rfl
  · have e : ns.getD j 0 = 0 := by
      rw [List.getD_eq_getElem?_getD, List.getElem?_eq_none (by omega)] <;> rfl
    rw [e] at k
    exact k
theorem joined_core {K : PySem.W.Frag} {p q : Addr} {a b : List Nat} {H : Hp} {Q : VK} {nx : L2.St → Hp → Prop} (hp : SqT K H p (vN a)) (hq : SqT K H q (vN b)) (hl : a.length ≤ 1000) (hlt : ∀ x ∈ a, x < b.length) (k : NewT H (jn a b) Q) :
    (tRet (tCB (rTupOf K) (tCons (tLc (iTup K (tVar 0)) (gName 2) tYes (tOp (rIxT K) (tVar 1) (tVar 2)) [2]) tNil))) { nx := nx, rt := Q } (start ["a", "b", "k"] [.ref p, .ref q]) H := by
  refine ⟨_, rfl, p, rfl, ⟨_, hp⟩, fun D hD => lc_tup (K := K) (a := p) (xs := vN a) (fun i H' => Same H H' ∧ H' D = some (.lst (vN (jn (a.take i) b)))) ⟨(Same.refl H).new hD, upd_same⟩ (fun i H' _ s => s.1.tup hp) ?_ ?_⟩
  · rintro i x H' hi ⟨s, hD'⟩
    obtain ⟨n, hn, rfl⟩ := vN_get hi
    have hnb : n < b.length := hlt n (List.mem_of_getElem? hn)
    refine ⟨rfl, ?_⟩
    walk_at "rd"
    refine ix_TN (i := n) (s.tup hq) hnb rfl ?_
    refine ⟨_, hD', ?_, s.up hD, ?_⟩
    · rw [vN_len, jn_len, List.length_take]; exact zlt (by omega)
    · rw [upd_same, vN_app, take_more hn]
      show _ = some (HO.lst (vN ((a.take i ++ [n]).map fun k => b.getD k 0)))
      rw [List.map_append] <;> rfl
  · rintro H' ⟨s, hD'⟩
    rw [vN_len, List.take_length] at hD'
    refine tup_L (sqL hD') fun r hr => k r _ (s.new hr) (s.free hr) upd_same
def sp_joined (K : PySem.W.Frag) (g : Gd) : Sp := fun vs H Q _ => ∃ (p q : Addr) (a b : List Nat), vs = [.ref p, .ref q] ∧ SqT K H p (vN a) ∧ SqT K H q (vN b) ∧ a.length ≤ 1000 ∧ (∀ x ∈ a, x < b.length) ∧ NewT H (jn a b) Q
theorem len_joined (K : PySem.W.Frag) (g : Gd) (vs : List V) (H : Hp) (Q : VK) (E : XK) (h : sp_joined K g vs H Q E) : vs.length = 2 := by obtain ⟨_, _, _, _, rfl, _⟩ := h; rfl
abbrev N_joined : List Str := ["a", "b", "k"]
/-- joined -/
def t_joined (K : PySem.W.Frag) (g : Gd) (E : XK) : TS :=
  (tRet (tCB (rTupOf K) (tCons (tLc (iTup K (tVar 0)) (gName 2) tYes (tOp (rIxT K) (tVar 1) (tVar 2)) [2]) tNil)))
theorem pure_joined {K : PySem.W.Frag} {g : Gd} (vs : List V) (H : Hp) (Q : VK) (E : XK) (h : sp_joined K g vs H Q E) : Rd1 (t_joined K g E) N_joined vs H Q := by
  obtain ⟨p, q, a, b, rfl, hp, hq, hl, hlt, k⟩ := h
  exact joined_core hp hq hl hlt k
def sp_is_seating (K : PySem.W.Frag) (g : Gd) : Sp := fun vs H Q _ => ∃ (p : Addr) (a : List Int), vs = [.ref p] ∧ SqT K H p (vI a) ∧ a.length ≤ 1000 ∧ Q (.bl (SeatB a)) H
theorem len_is_seating (K : PySem.W.Frag) (g : Gd) (vs : List V) (H : Hp) (Q : VK) (E : XK) (h : sp_is_seating K g vs H Q E) : vs.length = 1 := by obtain ⟨_, _, rfl, _⟩ := h; rfl
abbrev N_is_seating : List Str := ["row", "k"]
/-- is_seating -/
def t_is_seating (K : PySem.W.Frag) (g : Gd) (E : XK) : TS :=
  (tSeq (tIfS (tOr (tTest (tOp rLtI (tCB (rLenQ K) (tCons (tVar 0) tNil)) (tC (.int 1)))) (tTest (tOp rGtI (tCB (rLenQ K) (tCons (tVar 0) tNil)) (tC (.int 16))))) (tRet (tC (.bl false))) tNext)
    (tSeq (tFor (iRng1 (tCons (tCB (rLenQ K) (tCons (tVar 0) tNil)) tNil)) (gName 1) (tIfS (tTest (tOp (rIn K true) (tVar 1) (tVar 0))) (tRet (tC (.bl false))) tNext))
    (tRet (tC (.bl true)))))
theorem seatB_no {a : List Int} (h : ¬ (1 ≤ a.length ∧ a.length ≤ 16)) : SeatB a = false := by
  unfold SeatB
  by_cases h1 : 1 ≤ a.length
  · rw [decide_eq_true h1, decide_eq_false (fun z => h ⟨h1, z⟩)] <;> rfl
  · rw [decide_eq_false h1] <;> rfl
theorem seatB_no' {a : List Int} {k : Nat} (hk : k < a.length) (h : ¬ (k : Int) ∈ a) : SeatB a = false := by
  unfold SeatB
  have : ((List.range a.length).all fun k => decide ((k : Int) ∈ a)) = false := by
    refine Bool.eq_false_iff.mpr fun z => h ?_
    exact of_decide_eq_true (List.all_eq_true.mp z k (List.mem_range.mpr hk))
  rw [this, Bool.and_false]
theorem seatB_yes {a : List Int} (h1 : 1 ≤ a.length) (h2 : a.length ≤ 16) (h : ∀ k, k < a.length → (k : Int) ∈ a) : SeatB a = true := by
  unfold SeatB
  rw [decide_eq_true h1, decide_eq_true h2]
  exact List.all_eq_true.mpr fun k hk => decide_eq_true (h k (List.mem_range.mp hk))
theorem pure_is_seating {K : PySem.W.Frag} {g : Gd} (vs : List V) (H : Hp) (Q : VK) (E : XK) (h : sp_is_seating K g vs H Q E) : Rd1 (t_is_seating K g E) N_is_seating vs H Q := by
  obtain ⟨p, a, rfl, h, hl, k⟩ := h
  unfold t_is_seating
  walk_at "rd"
  refine len_TI h ?_
  walk_at "rd"
  refine if_d (fun c => ?_) (fun c => ?_)
  · walk_at "rd"
    rw [seatB_no (by omega)] at k
    exact k
  walk_at "rd"
  refine len_TI h ?_
  walk_at "rd"
  refine if_d (fun c2 => ?_) (fun c2 => ?_)
  · walk_at "rd"
    rw [seatB_no (by omega)] at k
    exact k
  walk_at "rd"
  refine len_TI h ?_
  walk_at "rd"
  refine w_for1 (by omega) (fun i σ H' => (∃ v, σ = [some (.ref p), v]) ∧ H' = H ∧ ∀ j, j < i → (j : Int) ∈ a) ⟨⟨_, rfl⟩, rfl, fun j hj => absurd hj (Nat.not_lt_zero j)⟩ ?_ ?_
  · rintro i σ H' hi ⟨⟨v, rfl⟩, rfl, hall⟩
    walk_at "rd"
    refine notin_TI h ?_
    walk_at "rd"
    refine if_nd (fun m => ?_) (fun m => ?_)
    · walk_at "rd"
      rw [seatB_no' hi m] at k
      exact k
    · walk_at "rd"
      refine ⟨⟨_, rfl⟩, rfl, fun j hj => ?_⟩
      by_cases e : j = i
      · rw [e]; exact m
      · exact hall j (by omega)
  · rintro σ H' ⟨⟨v, rfl⟩, rfl, hall⟩
    walk_at "rd"
    rw [seatB_yes (by omega) (by omega) hall] at k
    exact k
def sp_ask_seating (K : PySem.W.Frag) (g : Gd) : Sp := fun vs H Q E => ∃ (p : Addr) (a : List Int), vs = [.ref p] ∧ SqT K H p (vI a) ∧ a.length ≤ 1000 ∧ (SeatB a = true → Q .non H) ∧ (SeatB a = false → E (.ref g.NoSeating) none H)
theorem len_ask_seating (K : PySem.W.Frag) (g : Gd) (vs : List V) (H : Hp) (Q : VK) (E : XK) (h : sp_ask_seating K g vs H Q E) : vs.length = 1 := by obtain ⟨_, _, rfl, _⟩ := h; rfl
abbrev N_ask_seating : List Str := ["a"]
/-- ask_seating -/
def t_ask_seating (K : PySem.W.Frag) (g : Gd) (E : XK) : TS :=
  (tIfS (tNot (tB (tCallS (sp_is_seating K g) (fun _ => E0) (tCons (tVar 0) tNil)))) (tRaiseW (wE E) g.NoSeating) tNext)
theorem pure_ask_seating {K : PySem.W.Frag} {g : Gd} (vs : List V) (H : Hp) (Q : VK) (E : XK) (h : sp_ask_seating K g vs H Q E) : Rd1 (t_ask_seating K g E) N_ask_seating vs H Q := by
  obtain ⟨p, a, rfl, h, hl, k, e⟩ := h
  unfold t_ask_seating
  walk_at "rd"
  refine ⟨p, a, rfl, h, hl, ?_⟩
  walk_at "rd"
  refine if_nb (fun c => e c) (fun c => k c)
def sp_ask_size (K : PySem.W.Frag) (g : Gd) : Sp := fun vs H Q E => ∃ n : Int, vs = [.int n] ∧ (1 ≤ n ∧ n ≤ 16 → Q .non H) ∧ (¬ (1 ≤ n ∧ n ≤ 16) → E (.ref g.NoSize) none H)
theorem len_ask_size (K : PySem.W.Frag) (g : Gd) (vs : List V) (H : Hp) (Q : VK) (E : XK) (h : sp_ask_size K g vs H Q E) : vs.length = 1 := by obtain ⟨_, rfl, _⟩ := h; rfl
abbrev N_ask_size : List Str := ["size"]
/-- ask_size -/
def t_ask_size (K : PySem.W.Frag) (g : Gd) (E : XK) : TS :=
  (tIfS (tOr (tTest (tOp rLtI (tVar 0) (tC (.int 1)))) (tTest (tOp rGtI (tVar 0) (tC (.int 16))))) (tRaiseW (wE E) g.NoSize) tNext)
theorem pure_ask_size {K : PySem.W.Frag} {g : Gd} (vs : List V) (H : Hp) (Q : VK) (E : XK) (h : sp_ask_size K g vs H Q E) : Rd1 (t_ask_size K g E) N_ask_size vs H Q := by
  obtain ⟨n, rfl, k, e⟩ := h
  unfold t_ask_size
  walk_at "rd"
  refine if_d (fun c => ?_) (fun c => ?_)
  · walk_at "rd"
    exact e (by omega)
  walk_at "rd"
  refine if_d (fun c2 => ?_) (fun c2 => ?_)
  · exact e (by omega)
  · exact k (by omega)
def sp_rest (K : PySem.W.Frag) (g : Gd) : Sp := fun vs H Q E => ∃ n : Int, vs = [.int n] ∧ (1 ≤ n ∧ n ≤ 16 → NewT H (List.range n.toNat) Q) ∧ (¬ (1 ≤ n ∧ n ≤ 16) → E (.ref g.NoSize) none H)
theorem len_rest (K : PySem.W.Frag) (g : Gd) (vs : List V) (H : Hp) (Q : VK) (E : XK) (h : sp_rest K g vs H Q E) : vs.length = 1 := by obtain ⟨_, rfl, _⟩ := h; rfl
abbrev N_rest : List Str := ["size"]
/-- rest -/
def t_rest (K : PySem.W.Frag) (g : Gd) (E : XK) : TS :=
  (tSeq (tDrop (tCallS (sp_ask_size K g) (WE (wE E)) (tCons (tVar 0) tNil)))
    (tRet (tTupRg (tRg1 (tVar 0)))))
theorem pure_rest {K : PySem.W.Frag} {g : Gd} (vs : List V) (H : Hp) (Q : VK) (E : XK) (h : sp_rest K g vs H Q E) : Rd1 (t_rest K g E) N_rest vs H Q := by
  obtain ⟨n, rfl, k, e⟩ := h
  unfold t_rest
  walk_at "rd"
  refine ⟨n, rfl, fun c => ?_, e⟩
  obtain ⟨m, rfl⟩ : ∃ m : Nat, n = (m : Int) := ⟨n.toNat, by omega⟩
  walk_at "rd"
  refine ⟨rgOk_N (by omega), fun r hr => ?_⟩
  exact k c r _ ((Same.refl H).new hr) hr (by rw [upd_same, rgV_N] <;> rfl)
theorem turned_core {K : PySem.W.Frag} {p : Addr} {n : Nat} {a : List Nat} {H : Hp} {Q : VK} {nx : L2.St → Hp → Prop} (hp : SqT K H p (vN a)) (ha : IsP n a) (hn : n ≤ 1000) (k : NewT H (trn a) Q) :
    (tSeq (tAsg (tOp rRep (tLst (tCons (tC (.int 0)) tNil)) (tCB (rLenQ K) (tCons (tVar 0) tNil))) (gName 1))
    (tSeq (tFor (iRng1 (tCons (tCB (rLenQ K) (tCons (tVar 0) tNil)) tNil)) (gName 2) (tAsg (tVar 2) (gSub (tVar 1) (tOp (rIxT K) (tVar 0) (tVar 2)) rSetL)))
    (tRet (tCB (rTupOf K) (tCons (tVar 1) tNil))))) { nx := nx, rt := Q } (start ["a", "row", "k"] [.ref p]) H := by
  have hlen := ha.len
  walk_at "rd"
  refine ⟨zl (by show 1 ≤ 100000; decide), fun z hz => ?_⟩
  walk_at "rd"
  have s1 : Same H (upd H z (.lst [V.int 0])) := (Same.refl H).new hz
  refine len_TN (s1.tup hp) ?_
  refine rep_0 (by omega) upd_same fun l hl => ?_
  have s2 := s1.new (o := .lst (vN (List.replicate a.length 0))) hl
  have hl0 : H l = none := s1.free hl
  walk_at "rd"
  refine len_TN (s2.tup hp) ?_
  walk_at "rd"
  refine w_for1 (by omega) (fun i σ H' => (∃ v, σ = [some (.ref p), some (.ref l), v]) ∧ Same H H' ∧ H' l = some (.lst (vN (trnSt a i)))) ⟨⟨_, rfl⟩, s2, upd_same⟩ ?_ ?_
  · rintro i σ H' hi ⟨⟨v, rfl⟩, s, hL⟩
    walk_at "rd"
    refine ix_TN (i := i) (s.tup hp) hi rfl ?_
    refine set_N (i := a.getD i 0) (n := i) hL (by rw [trnSt_len, ha.len]; exact ha.getD_lt (by omega)) rfl ?_
    exact ⟨⟨_, rfl⟩, s.up hl0, by rw [upd_same, trnSt_succ]⟩
  · rintro σ H' ⟨⟨v, rfl⟩, s, hL⟩
    walk_at "rd"
    exact tup_L (sqL hL) fun r hr => k r _ (s.new hr) (s.free hr) upd_same
def sp_turned (K : PySem.W.Frag) (g : Gd) : Sp := fun vs H Q _ => ∃ (p : Addr) (n : Nat) (a : List Nat), vs = [.ref p] ∧ SqT K H p (vN a) ∧ IsP n a ∧ n ≤ 1000 ∧ NewT H (trn a) Q
theorem len_turned (K : PySem.W.Frag) (g : Gd) (vs : List V) (H : Hp) (Q : VK) (E : XK) (h : sp_turned K g vs H Q E) : vs.length = 1 := by obtain ⟨_, _, _, rfl, _⟩ := h; rfl
abbrev N_turned : List Str := ["a", "row", "k"]
/-- turned -/
def t_turned (K : PySem.W.Frag) (g : Gd) (E : XK) : TS :=
  (tSeq (tAsg (tOp rRep (tLst (tCons (tC (.int 0)) tNil)) (tCB (rLenQ K) (tCons (tVar 0) tNil))) (gName 1))
    (tSeq (tFor (iRng1 (tCons (tCB (rLenQ K) (tCons (tVar 0) tNil)) tNil)) (gName 2) (tAsg (tVar 2) (gSub (tVar 1) (tOp (rIxT K) (tVar 0) (tVar 2)) rSetL)))
    (tRet (tCB (rTupOf K) (tCons (tVar 1) tNil)))))
theorem pure_turned {K : PySem.W.Frag} {g : Gd} (vs : List V) (H : Hp) (Q : VK) (E : XK) (h : sp_turned K g vs H Q E) : Rd1 (t_turned K g E) N_turned vs H Q := by
  obtain ⟨p, n, a, rfl, hp, ha, hn, k⟩ := h
  exact turned_core hp ha hn k
def sp_then (K : PySem.W.Frag) (g : Gd) : Sp := fun vs H Q E => ∃ (p q : Addr) (a b : List Int), vs = [.ref p, .ref q] ∧ SqT K H p (vI a) ∧ SqT K H q (vI b) ∧ a.length ≤ 1000 ∧ b.length ≤ 1000 ∧
  (SeatB a = false ∨ SeatB b = false → E (.ref g.NoSeating) none H) ∧ (SeatB a = true → SeatB b = true → a.length ≠ b.length → E (.ref g.OtherSize) none H) ∧
  (∀ n a' b', a = a'.map (fun (x : Nat) => (x : Int)) → b = b'.map (fun (x : Nat) => (x : Int)) → IsP n a' → IsP n b' → 1 ≤ n → n ≤ 16 → NewT H (jn a' b') Q)
theorem len_then (K : PySem.W.Frag) (g : Gd) (vs : List V) (H : Hp) (Q : VK) (E : XK) (h : sp_then K g vs H Q E) : vs.length = 2 := by obtain ⟨_, _, _, _, rfl, _⟩ := h; rfl
abbrev N_then : List Str := ["a", "b"]
/-- then -/
def t_then (K : PySem.W.Frag) (g : Gd) (E : XK) : TS :=
  (tSeq (tDrop (tCallS (sp_ask_seating K g) (WE (wE E)) (tCons (tVar 0) tNil)))
    (tSeq (tDrop (tCallS (sp_ask_seating K g) (WE (wE E)) (tCons (tVar 1) tNil)))
    (tSeq (tIfS (tTest (tOp rNe (tCB (rLenQ K) (tCons (tVar 0) tNil)) (tCB (rLenQ K) (tCons (tVar 1) tNil)))) (tRaiseW (wE E) g.OtherSize) tNext)
    (tRet (tCallS (sp_joined K g) (fun _ => E0) (tCons (tVar 0) (tCons (tVar 1) tNil)))))))
theorem pure_then {K : PySem.W.Frag} {g : Gd} (vs : List V) (H : Hp) (Q : VK) (E : XK) (h : sp_then K g vs H Q E) : Rd1 (t_then K g E) N_then vs H Q := by
  obtain ⟨p, q, a, b, rfl, hp, hq, hla, hlb, e1, e2, k⟩ := h
  unfold t_then
  walk_at "rd"
  refine ⟨p, a, rfl, hp, hla, fun ca => ?_, fun c => e1 (.inl c)⟩
  walk_at "rd"
  refine ⟨q, b, rfl, hq, hlb, fun cb => ?_, fun c => e1 (.inr c)⟩
  walk_at "rd"
  refine len_TI hp ?_
  walk_at "rd"
  refine len_TI hq ?_
  walk_at "rd"
  refine if_nd (fun c => ?_) (fun c => ?_)
  · exact e2 ca cb (fun z => c (by rw [z]))
  · obtain ⟨a', pa, ea, h1, h2⟩ := seatB_is ca
    obtain ⟨b', pb, eb, h3, h4⟩ := seatB_is cb
    have hl : a.length = b.length := by omega
    rw [← hl] at pb
    walk_at "rd"
    rw [ea, ← vN_eq] at hp
    rw [eb, ← vN_eq] at hq
    exact ⟨p, q, a', b', rfl, hp, hq, by rw [pa.len]; omega, fun x hx => by rw [pb.len]; exact pa.lt hx, k _ a' b' ea eb pa pb h1 h2⟩
def sp_back (K : PySem.W.Frag) (g : Gd) : Sp := fun vs H Q E => ∃ (p : Addr) (a : List Int), vs = [.ref p] ∧ SqT K H p (vI a) ∧ a.length ≤ 1000 ∧
  (SeatB a = false → E (.ref g.NoSeating) none H) ∧ (∀ n a', a = a'.map (fun (x : Nat) => (x : Int)) → IsP n a' → 1 ≤ n → n ≤ 16 → NewT H (trn a') Q)
theorem len_back (K : PySem.W.Frag) (g : Gd) (vs : List V) (H : Hp) (Q : VK) (E : XK) (h : sp_back K g vs H Q E) : vs.length = 1 := by obtain ⟨_, _, rfl, _⟩ := h; rfl
abbrev N_back : List Str := ["a"]
/-- back -/
def t_back (K : PySem.W.Frag) (g : Gd) (E : XK) : TS :=
  (tSeq (tDrop (tCallS (sp_ask_seating K g) (WE (wE E)) (tCons (tVar 0) tNil)))
    (tRet (tCallS (sp_turned K g) (fun _ => E0) (tCons (tVar 0) tNil))))
theorem pure_back {K : PySem.W.Frag} {g : Gd} (vs : List V) (H : Hp) (Q : VK) (E : XK) (h : sp_back K g vs H Q E) : Rd1 (t_back K g E) N_back vs H Q := by
  obtain ⟨p, a, rfl, hp, hla, e1, k⟩ := h
  unfold t_back
  walk_at "rd"
  refine ⟨p, a, rfl, hp, hla, fun ca => ?_, fun c => e1 c⟩
  walk_at "rd"
  obtain ⟨a', pa, ea, h1, h2⟩ := seatB_is ca
  rw [ea, ← vN_eq] at hp
  exact ⟨p, _, a', rfl, hp, pa, by omega, k _ a' ea pa h1 h2⟩
theorem erase_perm {α : Type} : ∀ {l : List α} {i : Nat} (h : i < l.length), (l[i] :: l.eraseIdx i).Perm l
  | [], _, h => absurd h (Nat.not_lt_zero _)
  | _ :: _, 0, _ => List.Perm.refl _
  | a :: l, i + 1, h => by
    have h' : i < l.length := Nat.lt_of_succ_lt_succ h
    have ih := erase_perm (l := l) (i := i) h'
    show (l[i] :: a :: l.eraseIdx i).Perm (a :: l)
    exact (List.Perm.swap a l[i] _).trans (List.Perm.cons a ih)
/-- drawing: the i-th of what is left, put behind what is drawn -/
theorem draw_perm {left row : List Nat} {i : Nat} (h : i < left.length) : ((row ++ [left.getD i 0]) ++ left.eraseIdx i).Perm (row ++ left) := by
  rw [List.append_assoc]
  refine List.Perm.append_left row ?_
  have e : left.getD i 0 = left[i] := by rw [List.getD_eq_getElem?_getD, List.getElem?_eq_getElem h] <;> rfl
  rw [e]
  exact erase_perm h
def drawStep (n : Nat) (f : Int → Int) (d : Int → Int → Int) (s : Int × List Nat × List Nat) (k : Nat) : Int × List Nat × List Nat :=
  let c := f s.1
  let m : Int := (n : Int) - (k : Int)
  (d c m, s.2.1.eraseIdx (c % m).toNat, s.2.2 ++ [s.2.1.getD (c % m).toNat 0])
def drawSt (n : Nat) (f : Int → Int) (d : Int → Int → Int) (c : Int) (k : Nat) : Int × List Nat × List Nat := (List.range k).foldl (drawStep n f d) (c, List.range n, [])
theorem drawSt_succ (n : Nat) (f : Int → Int) (d : Int → Int → Int) (c : Int) (k : Nat) : drawSt n f d c (k + 1) = drawStep n f d (drawSt n f d c k) k := by
  unfold drawSt
  rw [List.range_succ, List.foldl_append] <;> rfl
theorem drawSt_ok (n : Nat) (f : Int → Int) (d : Int → Int → Int) (c : Int) : ∀ k, k ≤ n → (drawSt n f d c k).2.1.length = n - k ∧ (drawSt n f d c k).2.2.length = k ∧ ((drawSt n f d c k).2.2 ++ (drawSt n f d c k).2.1).Perm (List.range n)
  | 0, _ => ⟨List.length_range, rfl, List.Perm.refl _⟩
  | k + 1, hk => by
    obtain ⟨h1, h2, h3⟩ := drawSt_ok n f d c k (by omega)
    rw [drawSt_succ]
    have hm : (0 : Int) < (n : Int) - (k : Int) := by omega
    have hi : ((f (drawSt n f d c k).1) % ((n : Int) - (k : Int))).toNat < (drawSt n f d c k).2.1.length := by
      have a := Int.emod_nonneg (f (drawSt n f d c k).1) (Int.ne_of_gt hm)
      have b := Int.emod_lt_of_pos (f (drawSt n f d c k).1) hm
      omega
    refine ⟨?_, ?_, (draw_perm hi).trans h3⟩
    · show (List.eraseIdx _ _).length = _
      rw [List.length_eraseIdx_of_lt hi, h1]; omega
    · show (_ ++ [_]).length = _
      rw [List.length_append, h2]; rfl
theorem drawSt_perm (n : Nat) (f : Int → Int) (d : Int → Int → Int) (c : Int) : IsP n (drawSt n f d c n).2.2 := by
  obtain ⟨h1, h2, h3⟩ := drawSt_ok n f d c n (Nat.le_refl n)
  have e : (drawSt n f d c n).2.1 = [] := List.length_eq_zero_iff.mp (by omega)
  rw [e, List.append_nil] at h3
  exact h3
/-- any seating of n by a cell -/
def seatN (c : Int) (n : Nat) : List Nat := (drawSt n (fun c => c) (fun c m => c / m) c n).2.2
/-- .. by a cell mixed -/
def farN (c : Int) (n : Nat) : List Nat := (drawSt n (fun c => (c * 48271 + 11) % 2147483647) (fun c _ => c) c n).2.2
theorem isP_seat (c : Int) (n : Nat) : IsP n (seatN c n) := drawSt_perm _ _ _ _
theorem isP_far (c : Int) (n : Nat) : IsP n (farN c n) := drawSt_perm _ _ _ _
def sp_L_far (K : PySem.W.Frag) (g : Gd) : Sp := fun vs H Q _ => ∃ (c : Int) (n : Nat), vs = [.int c, .int (n : Int)] ∧ n ≤ 1000 ∧ NewT H (farN c n) Q
theorem len_L_far (K : PySem.W.Frag) (g : Gd) (vs : List V) (H : Hp) (Q : VK) (E : XK) (h : sp_L_far K g vs H Q E) : vs.length = 2 := by obtain ⟨_, _, rfl, _⟩ := h; rfl
abbrev N_L_far : List Str := ["cell", "size", "left", "row", "k"]
/-- _law_far -/
def t_L_far (K : PySem.W.Frag) (g : Gd) (E : XK) : TS :=
  (tSeq (tAsg (tLstRg (tRg1 (tVar 1))) (gName 2))
    (tSeq (tAsg (tLst tNil) (gName 3))
    (tSeq (tFor (iRng1 (tCons (tVar 1) tNil)) (gName 4) (tSeq (tAsg (tOp rModI (tOp rAddI (tOp rMulI (tVar 0) (tC (.int 48271))) (tC (.int 11))) (tC (.int 2147483647))) (gName 0))
    (tDrop (tBM K "list" rAppend (tVar 3) (tCons (tBM K "list" rPopAt (tVar 2) (tCons (tOp rModI (tVar 0) (tOp rSubI (tVar 1) (tVar 4))) tNil)) tNil)))))
    (tRet (tCB (rTupOf K) (tCons (tVar 3) tNil))))))
theorem pure_L_far {K : PySem.W.Frag} {g : Gd} (vs : List V) (H : Hp) (Q : VK) (E : XK) (h : sp_L_far K g vs H Q E) : Rd1 (t_L_far K g E) N_L_far vs H Q := by
  obtain ⟨c, n, rfl, hn, k⟩ := h
  unfold t_L_far
  walk_at "rd"
  refine ⟨rgOk_N (by omega), fun l hl => ?_⟩
  rw [rgV_N]
  have s1 : Same H (upd H l (.lst (vN (List.range n)))) := (Same.refl H).new hl
  walk_at "rd"
  refine ⟨zl (Nat.zero_le _), fun r hr => ?_⟩
  have hr0 := s1.free hr
  have s2 := s1.new (o := .lst []) hr
  have hlr : l ≠ r := ne_of_none upd_same hr
  walk_at "rd"
  refine w_for1 (by omega) (fun i σ H' => (∃ v, σ = [some (.int (drawSt n (fun c => (c * 48271 + 11) % 2147483647) (fun c _ => c) c i).1), some (.int (n : Int)), some (.ref l), some (.ref r), v]) ∧ Same H H' ∧
    H' l = some (.lst (vN (drawSt n (fun c => (c * 48271 + 11) % 2147483647) (fun c _ => c) c i).2.1)) ∧ H' r = some (.lst (vN (drawSt n (fun c => (c * 48271 + 11) % 2147483647) (fun c _ => c) c i).2.2))) ⟨⟨_, rfl⟩, s2, by rw [upd_ne hlr, upd_same] <;> rfl, upd_same⟩ ?_ ?_
  · rintro i σ H' hi ⟨⟨v, rfl⟩, s, hL, hR⟩
    have ok := drawSt_ok n (fun c => (c * 48271 + 11) % 2147483647) (fun c _ => c) c i (by omega)
    have hst := drawSt_succ n (fun c => (c * 48271 + 11) % 2147483647) (fun c _ => c) c i
    generalize drawSt n (fun c => (c * 48271 + 11) % 2147483647) (fun c _ => c) c i = st at ok hst hL hR ⊢
    obtain ⟨c1, left, row⟩ := st
    obtain ⟨o1, o2, _⟩ := ok
    dsimp only at o1 o2 hL hR ⊢
    rw [hst]
    have hm : (0 : Int) < (n : Int) - (i : Int) := by omega
    have b1 := Int.emod_nonneg ((c1 * 48271 + 11) % 2147483647) (Int.ne_of_gt hm)
    have b2 := Int.emod_lt_of_pos ((c1 * 48271 + 11) % 2147483647) hm
    walk_at "rd"
    refine mul_I (.inr ⟨by decide, by decide⟩) ?_
    walk_at "rd"
    refine mod_I (by decide) ?_
    walk_at "rd"
    refine ⟨isL (sqL hR), ?_⟩
    walk_at "rd"
    refine ⟨isL (sqL hL), ?_⟩
    walk_at "rd"
    refine mod_I hm ?_
    walk_at "rd"
    refine pop_N (i := (((c1 * 48271 + 11) % 2147483647) % ((n : Int) - (i : Int))).toNat) hL (by omega) (by omega) (by omega) ?_
    walk_at "rd"
    refine app_N (a := row) (by rw [upd_ne hlr.symm]; exact hR) (by omega) ?_
    refine ⟨⟨_, rfl⟩, (s.up hl).up hr0, ?_, upd_same⟩
    rw [upd_ne hlr, upd_same] <;> rfl
  · rintro σ H' ⟨⟨v, rfl⟩, s, hL, hR⟩
    walk_at "rd"
    exact tup_L (sqL hR) fun q hq => k q _ (s.new hq) (s.free hq) upd_same
end Shf

/-! laws k03, k04: what is refused -/
namespace Shf
open PySem L2
section
variable {K : PySem.W.Frag} {H : Hp} {Q : VK} {p q : Addr}
theorem is_E {D C a : Addr} {b : Bool} (x : ExcC K D) (h : PySem.W.kitOne K (.ref D) (.ref C) = some b) (k : Q (.bl b) H) : rIsE2 K (.ref D) none a [.ref a, .ref C] H Q := ⟨D, rfl, rfl, x, .ref C, .ref C, b, rfl, fun _ r => r, h, k⟩
theorem is_ET {D a : Addr} {T : String} {b : Bool} (x : ExcC K D) (h : PySem.W.kitOne K (.ref D) (.type T) = some b) (k : Q (.bl b) H) : rIsE2 K (.ref D) none a [.ref a, .ty T] H Q := ⟨D, rfl, rfl, x, .ty T, .type T, b, rfl, fun _ r => r, h, k⟩
abbrev vB (a : List Bool) : List V := a.map V.bl
def dB (a : List Bool) : PyData := .tuple (a.map PyData.bool)
theorem dpAll_B : ∀ (a : List Bool), DpAll K H (vB a) (a.map PyData.bool)
  | [] => .nil
  | x :: r => .cons (.bl x) (dpAll_B r)
theorem eqv_bool (x y : Bool) : PyData.eqv (.bool x) (.bool y) = decide (x = y) := by
  unfold PyData.eqv
  cases x <;> cases y <;> rfl
theorem eqv_B (a b : List Bool) : PyData.eqv (dB a) (dB b) = decide (a = b) := by
  unfold dB PyData.eqv
  exact eqvAll_map eqv_bool a b
theorem shp_B (a : List Bool) : SeqAt.shaped (dB a) = true := by
  refine shp ?_ ?_
  · unfold dB PyData.canLay0
    exact canAll_map (fun x => by simp [PyData.canLay0]) a
  · unfold dB PyData.depth
    have := depthAll_map (f := PyData.bool) (n := 0) (fun x => by simp [PyData.depth]) a
    omega
theorem eq_TB {a b : List Bool} (ha : SqT K H p (vB a)) (hb : SqT K H q (vB b)) (k : Q (.bl (decide (a = b))) H) : rEqD K (.ref p) (.ref q) H Q := ⟨dB a, dB b, .tup ha (dpAll_B a), .tup hb (dpAll_B b), shp_B a, shp_B b, by rw [eqv_B]; exact k⟩
theorem ne_TB {a b : List Bool} (ha : SqT K H p (vB a)) (hb : SqT K H q (vB b)) (k : Q (.bl (!decide (a = b))) H) : rNeD K (.ref p) (.ref q) H Q := ⟨dB a, dB b, .tup ha (dpAll_B a), .tup hb (dpAll_B b), shp_B a, shp_B b, by rw [eqv_B]; exact k⟩
end
end Shf

/-! rings of a seating: mathematics, rings, even; the laws' rings -/
namespace Shf
open PySem L2
/-! ### steps of a seating from a seat -/
def itr (a : List Nat) : Nat → Nat → Nat
  | 0, x => x
  | j + 1, x => a.getD (itr a j x) 0
section
variable {n : Nat} {a : List Nat}
theorem itr_lt (h : IsP n a) {x : Nat} (hx : x < n) : ∀ j, itr a j x < n
  | 0 => hx
  | j + 1 => h.getD_lt (itr_lt h hx j)
theorem itr_add (a : List Nat) (x : Nat) (j : Nat) : ∀ i, itr a (i + j) x = itr a i (itr a j x)
  | 0 => by rw [Nat.zero_add] <;> rfl
  | i + 1 => by
    rw [Nat.add_right_comm]
    show a.getD (itr a (i + j) x) 0 = a.getD (itr a i (itr a j x)) 0
    rw [itr_add a x j i]
theorem itr_inj (h : IsP n a) {x y : Nat} (hx : x < n) (hy : y < n) : ∀ j, itr a j x = itr a j y → x = y
  | 0, e => e
  | j + 1, e => by
    refine itr_inj h hx hy j ?_
    exact nd_getD h.nd (by rw [h.len]; exact itr_lt h hx j) (by rw [h.len]; exact itr_lt h hy j) e
theorem itr_back (h : IsP n a) {k : Nat} (hk : k < n) {i j : Nat} (hij : i ≤ j) (e : itr a i k = itr a j k) : itr a (j - i) k = k := by
  have e1 : itr a j k = itr a i (itr a (j - i) k) := by
    rw [← itr_add, Nat.add_comm, Nat.sub_add_cancel hij]
  rw [e1] at e
  exact (itr_inj h hk (itr_lt h hk _) i e).symm
theorem itr_ret (h : IsP n a) {k : Nat} (hk : k < n) : ∃ p, 1 ≤ p ∧ p ≤ n ∧ itr a p k = k := by
  refine Classical.byContradiction fun no => ?_
  have nd : ((List.range (n + 1)).map fun j => itr a j k).Nodup := by
    refine nd_of_getD fun i j hi hj e => ?_
    rw [List.length_map, List.length_range] at hi hj
    have g : ∀ i, i < n + 1 → ((List.range (n + 1)).map fun j => itr a j k).getD i 0 = itr a i k := fun i hi => by
      rw [List.getD_eq_getElem?_getD, List.getElem?_map, List.getElem?_range hi] <;> rfl
    rw [g i hi, g j hj] at e
    refine Decidable.byContradiction fun ne => ?_
    rcases Nat.lt_or_gt_of_ne ne with l | l
    · exact no ⟨j - i, by omega, by omega, itr_back h hk (Nat.le_of_lt l) e⟩
    · exact no ⟨i - j, by omega, by omega, itr_back h hk (Nat.le_of_lt l) e.symm⟩
  have hl := nd_sub_len (m := List.range n) nd fun x hx => by
    obtain ⟨j, _, rfl⟩ := List.mem_map.mp hx
    exact List.mem_range.mpr (itr_lt h hk j)
  rw [List.length_map, List.length_range, List.length_range] at hl
  omega
/-- the least number of steps, from j on, that comes back to k -/
def perF (a : List Nat) (k : Nat) : Nat → Nat → Nat
  | 0, j => j
  | f + 1, j => if itr a j k = k then j else perF a k f (j + 1)
theorem perF_spec (a : List Nat) (k : Nat) : ∀ f j p, j ≤ p → p ≤ j + f → itr a p k = k → itr a (perF a k f j) k = k ∧ j ≤ perF a k f j ∧ (∀ q, j ≤ q → q < perF a k f j → itr a q k ≠ k) ∧ perF a k f j ≤ p
  | 0, j, p, h1, h2, e => by
    have : p = j := by omega
    subst this
    exact ⟨e, Nat.le_refl _, fun q a b => absurd b (Nat.not_lt.mpr a), Nat.le_refl _⟩
  | f + 1, j, p, h1, h2, e => by
    unfold perF
    by_cases c : itr a j k = k
    · rw [if_pos c]
      exact ⟨c, Nat.le_refl _, fun q a b => absurd b (Nat.not_lt.mpr a), h1⟩
    · rw [if_neg c]
      have hne : p ≠ j := fun z => c (z ▸ e)
      obtain ⟨g1, g2, g3, g4⟩ := perF_spec a k f (j + 1) p (by omega) (by omega) e
      refine ⟨g1, by omega, fun q hq hl => ?_, g4⟩
      by_cases z : q = j
      · rw [z]; exact c
      · exact g3 q (by omega) hl
def per (a : List Nat) (k : Nat) : Nat := perF a k a.length 1
theorem per_spec (h : IsP n a) {k : Nat} (hk : k < n) : itr a (per a k) k = k ∧ 1 ≤ per a k ∧ (∀ q, 1 ≤ q → q < per a k → itr a q k ≠ k) ∧ per a k ≤ n := by
  obtain ⟨p, h1, h2, e⟩ := itr_ret h hk
  obtain ⟨g1, g2, g3, g4⟩ := perF_spec a k a.length 1 p h1 (by rw [h.len]; omega) e
  exact ⟨g1, g2, g3, Nat.le_trans g4 h2⟩
/-- the ring of a seat, from it on -/
def ring (a : List Nat) (k : Nat) : List Nat := (List.range (per a k)).map fun j => itr a j k
theorem ring_len (a : List Nat) (k : Nat) : (ring a k).length = per a k := by unfold ring; rw [List.length_map, List.length_range]
theorem itr_mul (h : IsP n a) {k : Nat} (hk : k < n) : ∀ m, itr a (m * per a k) k = k
  | 0 => by rw [Nat.zero_mul] <;> rfl
  | m + 1 => by rw [Nat.succ_mul, itr_add, (per_spec h hk).1, itr_mul h hk m]
theorem mem_ring (h : IsP n a) {k : Nat} (hk : k < n) (j : Nat) : itr a j k ∈ ring a k := by
  have hp := (per_spec h hk).2.1
  have e : itr a j k = itr a (j % per a k) k := by
    conv => lhs; rw [← Nat.div_add_mod j (per a k), Nat.add_comm, itr_add, Nat.mul_comm, itr_mul h hk]
  rw [e]
  exact List.mem_map.mpr ⟨j % per a k, List.mem_range.mpr (Nat.mod_lt _ hp), rfl⟩
theorem ring_mem {k x : Nat} (h : x ∈ ring a k) : ∃ j, j < per a k ∧ itr a j k = x := by
  obtain ⟨j, hj, e⟩ := List.mem_map.mp h
  exact ⟨j, List.mem_range.mp hj, e⟩
theorem ring_lt (h : IsP n a) {k x : Nat} (hk : k < n) (hx : x ∈ ring a k) : x < n := by
  obtain ⟨j, _, rfl⟩ := ring_mem hx
  exact itr_lt h hk j
theorem ring_self (h : IsP n a) {k : Nat} (hk : k < n) : k ∈ ring a k := mem_ring h hk 0
theorem ring_symm (h : IsP n a) {k x : Nat} (hk : k < n) (hx : x ∈ ring a k) : k ∈ ring a x := by
  obtain ⟨j, hj, rfl⟩ := ring_mem hx
  have e : itr a (per a k - j) (itr a j k) = k := by rw [← itr_add, Nat.sub_add_cancel (Nat.le_of_lt hj)]; exact (per_spec h hk).1
  have := mem_ring h (itr_lt h hk j) (per a k - j)
  rw [e] at this
  exact this
theorem ring_trans (h : IsP n a) {k x y : Nat} (hk : k < n) (hx : x ∈ ring a k) (hy : y ∈ ring a x) : y ∈ ring a k := by
  obtain ⟨j, _, rfl⟩ := ring_mem hx
  obtain ⟨i, _, rfl⟩ := ring_mem hy
  rw [← itr_add]
  exact mem_ring h hk _
theorem ring_nd (h : IsP n a) {k : Nat} (hk : k < n) : (ring a k).Nodup := by
  obtain ⟨_, h1, h2, _⟩ := per_spec h hk
  refine nd_of_getD fun i j hi hj e => ?_
  rw [ring_len] at hi hj
  have g : ∀ i, i < per a k → (ring a k).getD i 0 = itr a i k := fun i hi => by
    unfold ring
    rw [List.getD_eq_getElem?_getD, List.getElem?_map, List.getElem?_range hi] <;> rfl
  rw [g i hi, g j hj] at e
  refine Decidable.byContradiction fun ne => ?_
  rcases Nat.lt_or_gt_of_ne ne with l | l
  · exact h2 (j - i) (by omega) (by omega) (itr_back h hk (Nat.le_of_lt l) e)
  · exact h2 (i - j) (by omega) (by omega) (itr_back h hk (Nat.le_of_lt l) e.symm)
/-- k is the least of its ring -/
def isMin (a : List Nat) (k : Nat) : Bool := (ring a k).all fun x => decide (k ≤ x)
theorem isMin_iff {k : Nat} : isMin a k = true ↔ ∀ x ∈ ring a k, k ≤ x := by
  unfold isMin
  rw [List.all_eq_true]
  exact ⟨fun h x hx => of_decide_eq_true (h x hx), fun h x hx => decide_eq_true (h x hx)⟩
/-- a list of numbers has a least -/
theorem least_of : ∀ (l : List Nat), l ≠ [] → ∃ m ∈ l, ∀ x ∈ l, m ≤ x
  | [], h => absurd rfl h
  | [x], _ => ⟨x, List.mem_singleton.mpr rfl, fun y hy => by rw [List.mem_singleton.mp hy]; exact Nat.le_refl _⟩
  | x :: y :: r, _ => by
    obtain ⟨m, hm, hl⟩ := least_of (y :: r) (by simp)
    by_cases c : x ≤ m
    · exact ⟨x, List.mem_cons_self, fun z hz => by
        rcases List.mem_cons.mp hz with e | hz
        · rw [e]; exact Nat.le_refl _
        · exact Nat.le_trans c (hl z hz)⟩
    · exact ⟨m, List.mem_cons_of_mem _ hm, fun z hz => by
        rcases List.mem_cons.mp hz with e | hz
        · rw [e]; omega
        · exact hl z hz⟩
/-- some ring that starts below k holds k beyond its start: just where k is not the least of its own -/
def SeenP (a : List Nat) (k x : Nat) : Prop := ∃ q, q < k ∧ isMin a q = true ∧ x ∈ ring a q ∧ x ≠ q
theorem seen_iff (h : IsP n a) {k : Nat} (hk : k < n) : SeenP a k k ↔ isMin a k = false := by
  constructor
  · rintro ⟨q, hq, _, hx, _⟩
    refine Bool.eq_false_iff.mpr fun z => ?_
    have := isMin_iff.mp z q (ring_symm h (by omega) hx)
    omega
  · intro z
    obtain ⟨m, hm, hl⟩ := least_of (ring a k) (fun e => by have := ring_self h hk; rw [e] at this; cases this)
    have hmn := ring_lt h hk hm
    have hmk : m ≠ k := fun e => by
      have : isMin a k = true := isMin_iff.mpr (fun x hx => by rw [← e]; exact hl x hx)
      rw [this] at z; cases z
    have hle := hl k (ring_self h hk)
    refine ⟨m, by omega, isMin_iff.mpr fun x hx => hl x (ring_trans h hk hm hx), ring_symm h hk hm, fun e => hmk e.symm⟩
/-- the rings of two seats or more whose first seats lie below m -/
def ringsK (a : List Nat) (m : Nat) : List (List Nat) := ((List.range m).filter fun k => isMin a k && decide (1 < per a k)).map (ring a)
def ringsN (a : List Nat) : List (List Nat) := ringsK a a.length
theorem ringsK_succ (a : List Nat) (m : Nat) : ringsK a (m + 1) = ringsK a m ++ (if isMin a m && decide (1 < per a m) then [ring a m] else []) := by
  unfold ringsK
  rw [List.range_succ, List.filter_append, List.map_append]
  congr 1
  by_cases c : (isMin a m && decide (1 < per a m)) = true
  · rw [List.filter_cons, if_pos c, if_pos c] <;> rfl
  · rw [List.filter_cons, if_neg c, if_neg c] <;> rfl
theorem ringsK_len (a : List Nat) : ∀ m, (ringsK a m).length ≤ m
  | m => by
    unfold ringsK
    rw [List.length_map]
    have := List.length_filter_le (fun k => isMin a k && decide (1 < per a k)) (List.range m)
    rw [List.length_range] at this
    exact this
end
/-! ### a list of tuples of numbers -/
inductive LT (H : Hp) : List V → List (List Nat) → Prop
  | nil : LT H [] []
  | cons {p : Addr} {a : List Nat} {vs : List V} {as : List (List Nat)} : H p = some (.tup (vN a)) → LT H vs as → LT H (.ref p :: vs) (a :: as)
theorem LT.mono {H H' : Hp} (s : Same H H') {vs : List V} {as : List (List Nat)} (h : LT H vs as) : LT H' vs as := by
  induction h with
  | nil => exact .nil
  | cons h _ ih => exact .cons (s _ _ h) ih
theorem LT.snoc {H : Hp} {p : Addr} {a : List Nat} (hp : H p = some (.tup (vN a))) {vs : List V} {as : List (List Nat)} (h : LT H vs as) : LT H (vs ++ [.ref p]) (as ++ [a]) := by
  induction h with
  | nil => exact .cons hp .nil
  | cons h _ ih => exact .cons h ih
theorem LT.len {H : Hp} {vs : List V} {as : List (List Nat)} (h : LT H vs as) : vs.length = as.length := by
  induction h with
  | nil => rfl
  | cons _ _ ih => simp [ih]
theorem LT.get {H : Hp} {vs : List V} {as : List (List Nat)} (h : LT H vs as) : ∀ {i : Nat} {a : List Nat}, as[i]? = some a → ∃ p, vs[i]? = some (.ref p) ∧ H p = some (.tup (vN a)) := by
  induction h with
  | nil => intro i a e; simp at e
  | cons h _ ih =>
    intro i a e
    cases i with
    | zero => cases e; exact ⟨_, rfl, h⟩
    | succ i => exact ih (by simpa using e)
theorem LT.get' {H : Hp} {vs : List V} {as : List (List Nat)} (h : LT H vs as) : ∀ {i : Nat} {v : V}, vs[i]? = some v → ∃ p a, v = .ref p ∧ as[i]? = some a ∧ H p = some (.tup (vN a)) := by
  induction h with
  | nil => intro i a e; simp at e
  | cons h _ ih =>
    intro i a e
    cases i with
    | zero => cases e; exact ⟨_, _, rfl, rfl, h⟩
    | succ i => exact ih (by simpa using e)
theorem upd_list_same {H H' : Hp} {p : Addr} {o : HO} (s : Same H H') (h : H p = none) : Same H (upd H' p o) := s.up h
/-- what changes is no tuple: the tuples stand -/
theorem LT.upL {H : Hp} {l : Addr} {xs : List V} {o : HO} (hl : H l = some (.lst xs)) {vs : List V} {as : List (List Nat)} (h : LT H vs as) : LT (L2.upd H l o) vs as := by
  induction h with
  | nil => exact .nil
  | cons h _ ih => exact .cons (by rw [upd_ne (ne_of h hl (by intro z; cases z))]; exact h) ih
theorem LT.updD {H : Hp} {l : Addr} {xs : List (Key × V)} {o : HO} (hl : H l = some (.dK xs)) {vs : List V} {as : List (List Nat)} (h : LT H vs as) : LT (L2.upd H l o) vs as := by
  induction h with
  | nil => exact .nil
  | cons h _ ih => exact .cons (by rw [upd_ne (ne_of h hl (by intro z; cases z))]; exact h) ih
/-- a new list of tuples is handed back -/
def NewLT (H : Hp) (as : List (List Nat)) (Q : VK) : Prop := ∀ (r : Addr) (H' : Hp) (vs : List V), Same H H' → H r = none → H' r = some (.lst vs) → LT H' vs as → Q (.ref r) H'
theorem w_while {c : TT} {tb : TS} {D : Ends} {σ : L2.St} {H : Hp} (h : ∃ W : Nat → L2.St → Hp → Prop, (∃ m, W m σ H) ∧ ∀ m σ H, W m σ H →
  c σ H fun b H1 => if b = true then ∃ N : L2.St → Hp → Prop, (∀ σ' H', N σ' H' → ∃ m', m' < m ∧ W m' σ' H') ∧ tb { D with nx := N, ct := N, bk := D.nx } σ H1 else D.nx σ H1) : tWhile c tb D σ H := h
theorem w_dnew {σ : L2.St} {H : Hp} {Q : VK} (h : ∀ p, H p = none → Q (.ref p) (upd H p (.dK []))) : tDNewK σ H Q := h
theorem w_dput {td ty tv : TE} {D : Ends} {σ : L2.St} {H : Hp} (h : tv σ H fun v H1 => td σ H1 fun x H2 => ty σ H2 fun y H3 => ∃ a H4, x = .ref a ∧ DPut H3 a y v H4 ∧ D.nx σ H4) : sDPut td ty tv D σ H := h
theorem w_dnotin {td ty : TE} {σ : L2.St} {H : Hp} {Q : VK} (h : ty σ H fun y H1 => td σ H1 fun x H2 => ∃ a o, x = .ref a ∧ DGet H2 a y o ∧ Q (.bl (!o.isSome)) H2) : tDNotIn ty td σ H Q := h
/-- the keys of a dict of numbers -/
def DK (kvs : List (Key × V)) (S : Nat → Prop) : Prop := ∀ x : Nat, (valV kvs (Sum.inl (x : Int) : Key)).isSome = true ↔ S x
theorem DK.nil : DK [] (fun _ => False) := fun x => by simp [valV]
theorem DK.put {kvs : List (Key × V)} {S : Nat → Prop} (h : DK kvs S) (x : Nat) (v : V) : DK (putK kvs (Sum.inl (x : Int)) v) (fun y => S y ∨ y = x) := fun y => by
  rw [valV_put]
  by_cases e : y = x
  · subst e
    rw [if_pos rfl]
    exact ⟨fun _ => .inr rfl, fun _ => rfl⟩
  · rw [if_neg (fun z => e (by have := Sum.inl.inj z; omega))]
    rw [h y]
    exact ⟨fun z => .inl z, fun z => z.resolve_right e⟩
theorem DK.cong {kvs : List (Key × V)} {S S' : Nat → Prop} (h : DK kvs S) (e : ∀ x, S x ↔ S' x) : DK kvs S' := fun x => (h x).trans (e x)
theorem putK_le (c : List (Key × V)) (k : Key) (x : V) : (putK c k x).length ≤ c.length + 1 := by
  unfold putK
  split
  · rw [List.length_map]; omega
  · rw [List.length_append]; exact Nat.le_refl _
def sp_rings (K : PySem.W.Frag) (g : Gd) : Sp := fun vs H Q E => ∃ (p : Addr) (a : List Int), vs = [.ref p] ∧ SqT K H p (vI a) ∧ a.length ≤ 1000 ∧
  (SeatB a = false → E (.ref g.NoSeating) none H) ∧ (∀ n a', a = a'.map (fun (x : Nat) => (x : Int)) → IsP n a' → 1 ≤ n → n ≤ 16 → NewLT H (ringsN a') Q)
theorem len_rings (K : PySem.W.Frag) (g : Gd) (vs : List V) (H : Hp) (Q : VK) (E : XK) (h : sp_rings K g vs H Q E) : vs.length = 1 := by obtain ⟨_, _, rfl, _⟩ := h; rfl
abbrev N_rings : List Str := ["a", "found", "seen", "k", "ring", "at"]
/-- rings -/
def t_rings (K : PySem.W.Frag) (g : Gd) (E : XK) : TS :=
  (tSeq (tDrop (tCallS (sp_ask_seating K g) (WE (wE E)) (tCons (tVar 0) tNil)))
    (tSeq (tAsg (tLst tNil) (gName 1))
    (tSeq (tAsg tDNewK (gName 2))
    (tSeq (tFor (iRng1 (tCons (tCB (rLenQ K) (tCons (tVar 0) tNil)) tNil)) (gName 3) (tIfS (tB (tDNotIn (tVar 3) (tVar 2))) (tSeq (tAsg (tLst (tCons (tVar 3) tNil)) (gName 4))
    (tSeq (tAsg (tOp (rIxT K) (tVar 0) (tVar 3)) (gName 5))
    (tSeq (tWhile (tTest (tOp rNe (tVar 5) (tVar 3))) (tSeq (tDrop (tBM K "list" rAppend (tVar 4) (tCons (tVar 5) tNil)))
    (tSeq (sDPut (tVar 2) (tVar 5) (tC (.bl true)))
    (tAsg (tOp (rIxT K) (tVar 0) (tVar 5)) (gName 5)))))
    (tIfS (tTest (tOp rGtI (tCB (rLenQ K) (tCons (tVar 4) tNil)) (tC (.int 1)))) (tDrop (tBM K "list" rAppend (tVar 1) (tCons (tCB (rTupOf K) (tCons (tVar 4) tNil)) tNil))) tNext)))) tNext))
    (tRet (tVar 1))))))
theorem pure_rings {K : PySem.W.Frag} {g : Gd} (vs : List V) (H : Hp) (Q : VK) (E : XK) (h : sp_rings K g vs H Q E) : Rd1 (t_rings K g E) N_rings vs H Q := by
  obtain ⟨p, a, rfl, hp, hla, e1, k⟩ := h
  unfold t_rings
  walk_at "rd"
  refine ⟨p, a, rfl, hp, hla, fun ca => ?_, fun c => e1 c⟩
  obtain ⟨b, pb, eb, h1, h2⟩ := seatB_is ca
  have k := k _ b eb pb h1 h2
  rw [eb, ← vN_eq] at hp
  clear e1 ca
  generalize hn : a.length = n at *
  walk_at "rd"
  refine ⟨zl (Nat.zero_le _), fun f hf => ?_⟩
  have s1 := (Same.refl H).new (o := .lst []) hf
  walk_at "rd"
  refine w_dnew fun d hd => ?_
  have s2 := s1.new (o := .dK []) hd
  have hd0 : H d = none := s1.free hd
  have hfd : f ≠ d := ne_of_none upd_same hd
  walk_at "rd"
  refine len_TN (s2.tup hp) ?_
  rw [pb.len]
  walk_at "rd"
  refine w_for1 (by omega) (fun i σ H' => (∃ v r t, σ = [some (.ref p), some (.ref f), some (.ref d), v, r, t]) ∧ Same H H' ∧ (∃ vs, H' f = some (.lst vs) ∧ LT H' vs (ringsK b i)) ∧ (∃ kvs, H' d = some (.dK kvs) ∧ kvs.length ≤ i * 17 ∧ DK kvs (SeenP b i)))
    ⟨⟨_, _, _, rfl⟩, s2, ⟨[], by rw [upd_ne hfd, upd_same], .nil⟩, ⟨[], upd_same, Nat.le_refl _, fun x => ⟨fun z => by simp [valV] at z, fun ⟨q, hq, _⟩ => absurd hq (Nat.not_lt_zero q)⟩⟩⟩ ?_ ?_
  · rintro i σ H1 hi ⟨⟨v, r, t, rfl⟩, s, ⟨vs, hF, hLT⟩, ⟨kvs, hD, hkl, hDK⟩⟩
    walk_at "rd"
    refine w_dnotin ?_
    walk_at "rd"
    refine ⟨d, _, rfl, DGet.k (k := Sum.inl (i : Int)) hD, ?_⟩
    walk_at "rd"
    have hsn := seen_iff pb hi
    refine if_nb (fun c => ?_) (fun c => ?_)
    · -- not seen: the least of its ring
      have hmin : isMin b i = true := by
        cases hm : isMin b i with
        | true => rfl
        | false =>
          have := (hDK i).mpr (hsn.mpr hm)
          rw [c] at this; cases this
      obtain ⟨q1, q2, q3, q4⟩ := per_spec pb hi
      walk_at "rd"
      refine ⟨zl (by show 1 ≤ 100000; decide), fun l hl => ?_⟩
      have hl0 := s.free hl
      have s3 := s.new (o := .lst [V.int (i : Int)]) hl
      have hfl : f ≠ l := ne_of_none hF hl
      have hdl : d ≠ l := ne_of_none hD hl
      walk_at "rd"
      refine ix_TN (i := i) (s3.tup hp) (by rw [pb.len]; exact hi) rfl ?_
      walk_at "rd"
      refine w_while ⟨fun m σ H' => ∃ j, 1 ≤ j ∧ j + m = per b i ∧ σ = [some (.ref p), some (.ref f), some (.ref d), some (.int (i : Int)), some (.ref l), some (.int ((itr b j i : Nat) : Int))] ∧ Same H H' ∧ (H' f = some (.lst vs) ∧ LT H' vs (ringsK b i)) ∧
        (∃ kvs, H' d = some (.dK kvs) ∧ kvs.length ≤ i * 17 + j ∧ DK kvs (fun x => SeenP b i x ∨ ∃ u, 1 ≤ u ∧ u < j ∧ itr b u i = x)) ∧ H' l = some (.lst (vN ((List.range j).map fun u => itr b u i))), ⟨per b i - 1, 1, Nat.le_refl _, by omega, rfl, s3, ⟨by rw [upd_ne hfl]; exact hF, hLT.mono ((Same.refl H1).new hl)⟩,
          ⟨kvs, by rw [upd_ne hdl]; exact hD, by omega, hDK.cong fun x => ⟨fun z => .inl z, fun z => z.elim (fun z => z) fun ⟨u, a, b, _⟩ => by omega⟩⟩, upd_same⟩, ?_⟩
      clear hD hDK hkl hF hLT c s3 kvs
      rintro m σ H2 ⟨j, hj1, hjm, rfl, s, ⟨hF, hLT⟩, ⟨kvs, hD, hkl, hDK⟩, hL⟩
      walk_at "rd"
      refine if_nd (fun c => ?_) (fun c => ?_)
      · -- one more
        have hjp : j < per b i := by
          refine Decidable.byContradiction fun z => c ?_
          have : j = per b i := by omega
          rw [this, q1]
        refine ⟨_, fun σ' H' h => ⟨m - 1, by omega, h⟩, ?_⟩
        have hlt := itr_lt pb hi j
        have hdl2 : d ≠ l := ne_of hD hL (by intro z; cases z)
        have hfl2 : f ≠ l := hfl
        have hfd2 : f ≠ d := ne_of hF hD (by intro z; cases z)
        walk_at "rd"
        refine ⟨isL (sqL hL), ?_⟩
        walk_at "rd"
        refine app_N (a := (List.range j).map fun u => itr b u i) hL (by rw [List.length_map, List.length_range]; omega) ?_
        walk_at "sq"
        refine w_dput ?_
        walk_at "rd"
        refine ⟨d, _, rfl, DPut.k (k := Sum.inl ((itr b j i : Nat) : Int)) (by rw [upd_ne hdl2]; exact hD) (zlt (by omega)), ?_⟩
        walk_at "rd"
        have s5 := (s.up (o := .lst (vN ((List.range j).map (fun u => itr b u i) ++ [itr b j i]))) hl0).up (o := .dK (putK kvs (Sum.inl ((itr b j i : Nat) : Int)) (V.bl true))) hd0
        refine ix_TN (i := itr b j i) (s5.tup hp) (by rw [pb.len]; exact hlt) rfl ?_
        refine ⟨j + 1, by omega, by omega, rfl, s5, ⟨by rw [upd_ne hfd2, upd_ne hfl2]; exact hF, ?_⟩, ⟨_, upd_same, ?_, ?_⟩, ?_⟩
        · exact (hLT.upL hL).updD (by rw [upd_ne hdl2]; exact hD)
        · have := putK_le kvs (Sum.inl ((itr b j i : Nat) : Int)) (V.bl true); omega
        · refine (hDK.put (itr b j i) (V.bl true)).cong fun x => ⟨fun z => ?_, fun z => ?_⟩
          · rcases z with (z | ⟨u, a1, a2, a3⟩) | z
            · exact .inl z
            · exact .inr ⟨u, a1, by omega, a3⟩
            · exact .inr ⟨j, hj1, by omega, z.symm⟩
          · rcases z with z | ⟨u, a1, a2, a3⟩
            · exact .inl (.inl z)
            · by_cases e : u = j
              · exact .inr (by rw [← a3, e])
              · exact .inl (.inr ⟨u, a1, by omega, a3⟩)
        · rw [upd_ne hdl2.symm, upd_same, List.range_succ, List.map_append] <;> rfl
      · -- the ring is whole
        have hjp : j = per b i := by
          refine Decidable.byContradiction fun z => q3 j hj1 (by omega) (by have := c; omega)
        subst hjp
        have hr : H2 l = some (.lst (vN (ring b i))) := hL
        have hseen : ∀ x, (SeenP b i x ∨ ∃ u, 1 ≤ u ∧ u < per b i ∧ itr b u i = x) ↔ SeenP b (i + 1) x := fun x => by
          constructor
          · rintro (⟨q, h1, h2, h3⟩ | ⟨u, a1, a2, a3⟩)
            · exact ⟨q, by omega, h2, h3⟩
            · exact ⟨i, by omega, hmin, by rw [← a3]; exact mem_ring pb hi u, fun z => q3 u a1 a2 (by rw [a3, z])⟩
          · rintro ⟨q, h1, h2, h3, h4⟩
            by_cases e : q = i
            · subst e
              obtain ⟨u, hu, hx⟩ := ring_mem h3
              refine .inr ⟨u, ?_, hu, hx⟩
              refine Nat.pos_of_ne_zero fun z => h4 ?_
              rw [← hx, z] <;> rfl
            · exact .inl ⟨q, by omega, h2, h3, h4⟩
        walk_at "rd"
        refine len_LN (sqL hr) ?_
        walk_at "rd"
        rw [ring_len]
        refine if_d (fun c2 => ?_) (fun c2 => ?_)
        · walk_at "rd"
          refine ⟨isL (sqL hF), ?_⟩
          walk_at "rd"
          refine tup_L (sqL hr) fun t ht => ?_
          have hft : f ≠ t := ne_of_none hF ht
          have hdt : d ≠ t := ne_of_none hD ht
          walk_at "rd"
          refine app_V (xs := vs) (by rw [upd_ne hft]; exact hF) (by rw [hLT.len]; have := ringsK_len b i; omega) ?_
          have hfd2 : f ≠ d := ne_of hF hD (by intro z; cases z)
          refine ⟨⟨_, _, _, rfl⟩, (s.new ht).up hf, ⟨_, upd_same, ?_⟩, ⟨kvs, ?_, by omega, hDK.cong hseen⟩⟩
          · rw [ringsK_succ, hmin, decide_eq_true (by omega)]
            refine LT.snoc ?_ ?_
            · rw [upd_ne hft.symm, upd_same]
            · exact (hLT.mono ((Same.refl H2).new ht)).upL (by rw [upd_ne hft]; exact hF)
          · rw [upd_ne hfd2.symm, upd_ne hdt]; exact hD
        · walk_at "rd"
          refine ⟨⟨_, _, _, rfl⟩, s, ⟨vs, hF, ?_⟩, ⟨kvs, hD, by omega, hDK.cong hseen⟩⟩
          rw [ringsK_succ, decide_eq_false (by omega), Bool.and_false]
          exact (List.append_nil (ringsK b i)).symm ▸ hLT
    · -- seen
      have hmin : isMin b i = false := hsn.mp ((hDK i).mp c)
      walk_at "rd"
      refine ⟨⟨_, _, _, rfl⟩, s, ⟨vs, hF, ?_⟩, ⟨kvs, hD, by omega, hDK.cong fun x => ⟨fun ⟨q, h1, h2⟩ => ⟨q, by omega, h2⟩, fun ⟨q, h1, h2, h3⟩ => ⟨q, ?_, h2, h3⟩⟩⟩⟩
      · rw [ringsK_succ, hmin, Bool.false_and]
        exact (List.append_nil (ringsK b i)).symm ▸ hLT
      · by_cases e : q = i
        · rw [e, hmin] at h2; cases h2
        · omega
  · rintro σ H1 ⟨⟨v, r, t, rfl⟩, s, ⟨vs, hF, hLT⟩, _⟩
    walk_at "rd"
    refine k f H1 vs s hf hF ?_
    unfold ringsN
    rw [pb.len]
    exact hLT
/-- the rings' lengths, each less one, added up -/
def oddN (as : List (List Nat)) : Int := as.foldl (fun t r => t + (r.length : Int) - 1) 0
theorem oddN_snoc (as : List (List Nat)) (r : List Nat) : oddN (as ++ [r]) = oddN as + (r.length : Int) - 1 := by
  unfold oddN
  rw [List.foldl_append] <;> rfl
def evenN (a : List Nat) : Bool := decide (oddN (ringsN a) % 2 = 0)
def sp_even (K : PySem.W.Frag) (g : Gd) : Sp := fun vs H Q E => ∃ (p : Addr) (a : List Int), vs = [.ref p] ∧ SqT K H p (vI a) ∧ a.length ≤ 1000 ∧
  (SeatB a = false → E (.ref g.NoSeating) none H) ∧ (∀ n a', a = a'.map (fun (x : Nat) => (x : Int)) → IsP n a' → 1 ≤ n → n ≤ 16 → ∀ H', Same H H' → Q (.bl (evenN a')) H')
theorem len_even (K : PySem.W.Frag) (g : Gd) (vs : List V) (H : Hp) (Q : VK) (E : XK) (h : sp_even K g vs H Q E) : vs.length = 1 := by obtain ⟨_, _, rfl, _⟩ := h; rfl
abbrev N_even : List Str := ["a", "odd", "ring"]
/-- even -/
def t_even (K : PySem.W.Frag) (g : Gd) (E : XK) : TS :=
  (tSeq (tAsg (tC (.int 0)) (gName 1))
    (tSeq (tFor (iList K (tCallS (sp_rings K g) (WE (wE E)) (tCons (tVar 0) tNil))) (gName 2) (tAsg (tOp rSubI (tOp rAddI (tVar 1) (tCB (rLenQ K) (tCons (tVar 2) tNil))) (tC (.int 1))) (gName 1)))
    (tRet (tOp rEq (tOp rModI (tVar 1) (tC (.int 2))) (tC (.int 0))))))
theorem pure_even {K : PySem.W.Frag} {g : Gd} (vs : List V) (H : Hp) (Q : VK) (E : XK) (h : sp_even K g vs H Q E) : Rd1 (t_even K g E) N_even vs H Q := by
  obtain ⟨p, a, rfl, hp, hla, e1, k⟩ := h
  unfold t_even
  walk_at "rd"
  refine ⟨p, a, rfl, hp, hla, e1, fun n b eb pb h1 h2 r H1 vs s hr0 hr hLT => ?_⟩
  have k := k n b eb pb h1 h2
  walk_at "rd"
  refine ⟨r, rfl, ⟨_, sqL hr⟩, for_list (K := K) (a := r) (xs := vs) (fun i σ H' => (∃ v, σ = [some (.ref p), some (.int (oddN ((ringsN b).take i))), v]) ∧ H' = H1) ⟨⟨_, rfl⟩, rfl⟩ (fun i σ H' _ z => by rw [z.2]; exact sqL hr) ?_ ?_⟩
  · rintro i v σ H' hi ⟨⟨v0, rfl⟩, rfl⟩
    obtain ⟨q, x, rfl, hx, hq⟩ := hLT.get' hi
    refine (?_ : (tAsg _ _) _ _ _)
    walk_at "rd"
    refine len_TN (sqT hq) ?_
    walk_at "rd"
    refine ⟨⟨some (.ref q), ?_⟩, rfl⟩
    rw [take_more hx, oddN_snoc] <;> rfl
  · rintro σ H' ⟨⟨v0, rfl⟩, rfl⟩
    rw [hLT.len, List.take_length]
    walk_at "rd"
    refine mod_I (by decide) ?_
    walk_at "rd"
    exact k _ s
end Shf

/-! the age of a seating, a seating done many times; law k06 -/
namespace Shf
open PySem L2
/-! ### powers -/
def pw (a : List Nat) : Nat → List Nat
  | 0 => List.range a.length
  | j + 1 => jn (pw a j) a
section
variable {n : Nat} {a : List Nat}
theorem isP_pw (h : IsP n a) : ∀ j, IsP n (pw a j)
  | 0 => by show IsP n (List.range a.length); rw [h.len]; exact isP_id n
  | j + 1 => isP_jn (isP_pw h j) h
theorem pw_get (h : IsP n a) {x : Nat} (hx : x < n) : ∀ j, (pw a j).getD x 0 = itr a j x
  | 0 => by show (List.range a.length).getD x 0 = x; rw [range_getD (by rw [h.len]; exact hx)]
  | j + 1 => by
    show (jn (pw a j) a).getD x 0 = a.getD (itr a j x) 0
    rw [jn_get (by rw [(isP_pw h j).len]; exact hx), pw_get h hx j]
theorem pw_id_iff (h : IsP n a) (j : Nat) : pw a j = List.range n ↔ ∀ x, x < n → itr a j x = x := by
  constructor
  · intro e x hx
    rw [← pw_get h hx, e, range_getD hx]
  · intro e
    refine ext_getD (by rw [(isP_pw h j).len, List.length_range]) fun x hx => ?_
    rw [(isP_pw h j).len] at hx
    rw [pw_get h hx, e x hx, range_getD hx]
theorem itr_dvd (h : IsP n a) {k : Nat} (hk : k < n) (m : Nat) : itr a m k = k ↔ per a k ∣ m := by
  obtain ⟨q1, q2, q3, q4⟩ := per_spec h hk
  constructor
  · intro e
    have e1 : itr a (m % per a k) k = k := by
      have : itr a m k = itr a (m % per a k) k := by
        conv => lhs; rw [← Nat.div_add_mod m (per a k), Nat.add_comm, itr_add, Nat.mul_comm, itr_mul h hk]
      rw [← this]; exact e
    refine Nat.dvd_of_mod_eq_zero (Decidable.byContradiction fun z => ?_)
    exact q3 (m % per a k) (by omega) (Nat.mod_lt _ q2) e1
  · rintro ⟨c, rfl⟩
    rw [Nat.mul_comm]
    exact itr_mul h hk c
/-- seats of one ring have rings of one length -/
theorem per_same (h : IsP n a) {k x : Nat} (hk : k < n) (hx : x ∈ ring a k) : per a x = per a k := by
  have hxn := ring_lt h hk hx
  have l1 := nd_sub_len (ring_nd h hxn) (m := ring a k) fun y hy => ring_trans h hk hx hy
  have l2 := nd_sub_len (ring_nd h hk) (m := ring a x) fun y hy => ring_trans h hxn (ring_symm h hk hx) hy
  rw [ring_len, ring_len] at l1 l2
  omega
theorem rings_mem {r : List Nat} {m : Nat} : r ∈ ringsK a m ↔ ∃ q, q < m ∧ isMin a q = true ∧ 1 < per a q ∧ ring a q = r := by
  unfold ringsK
  rw [List.mem_map]
  constructor
  · rintro ⟨q, hq, e⟩
    obtain ⟨h1, h2⟩ := List.mem_filter.mp hq
    rw [Bool.and_eq_true, decide_eq_true_eq] at h2
    exact ⟨q, List.mem_range.mp h1, h2.1, h2.2, e⟩
  · rintro ⟨q, h1, h2, h3, e⟩
    exact ⟨q, List.mem_filter.mpr ⟨List.mem_range.mpr h1, by rw [h2, decide_eq_true h3] <;> rfl⟩, e⟩
/-- the age: the rings' lengths' least common multiple -/
def ageK (rs : List (List Nat)) : Nat := rs.foldl (fun m r => Nat.lcm m r.length) 1
def ageN (a : List Nat) : Nat := ageK (ringsN a)
theorem ageK_snoc (rs : List (List Nat)) (r : List Nat) : ageK (rs ++ [r]) = Nat.lcm (ageK rs) r.length := by
  unfold ageK
  rw [List.foldl_append] <;> rfl
theorem foldl_lcm_dvd (m : Nat) : ∀ (rs : List (List Nat)) (c : Nat), rs.foldl (fun m r => Nat.lcm m r.length) c ∣ m ↔ c ∣ m ∧ ∀ r ∈ rs, r.length ∣ m
  | [], c => by simp
  | r :: rs, c => by
    rw [List.foldl_cons, foldl_lcm_dvd m rs]
    constructor
    · rintro ⟨h1, h2⟩
      refine ⟨Nat.dvd_trans (Nat.dvd_lcm_left _ _) h1, fun q hq => ?_⟩
      rcases List.mem_cons.mp hq with e | hq
      · rw [e]; exact Nat.dvd_trans (Nat.dvd_lcm_right _ _) h1
      · exact h2 q hq
    · rintro ⟨h1, h2⟩
      exact ⟨Nat.lcm_dvd h1 (h2 r List.mem_cons_self), fun q hq => h2 q (List.mem_cons_of_mem _ hq)⟩
theorem ageK_dvd (rs : List (List Nat)) (m : Nat) : ageK rs ∣ m ↔ ∀ r ∈ rs, r.length ∣ m := by
  unfold ageK
  rw [foldl_lcm_dvd]
  exact ⟨fun h => h.2, fun h => ⟨Nat.one_dvd m, h⟩⟩
theorem pw_age (h : IsP n a) (m : Nat) : pw a m = List.range n ↔ ageN a ∣ m := by
  rw [pw_id_iff h]
  unfold ageN
  rw [ageK_dvd]
  constructor
  · intro e r hr
    unfold ringsN at hr
    obtain ⟨q, h1, _, _, rfl⟩ := rings_mem.mp hr
    rw [h.len] at h1
    rw [ring_len]
    exact (itr_dvd h h1 m).mp (e q h1)
  · intro e x hx
    rw [itr_dvd h hx]
    obtain ⟨q, hq, hl⟩ := least_of (ring a x) (fun z => by have := ring_self h hx; rw [z] at this; cases this)
    have hqn := ring_lt h hx hq
    have hp := per_same h hx hq
    rw [← hp]
    by_cases c : 1 < per a q
    · have := e (ring a q) (rings_mem.mpr ⟨q, by rw [h.len]; exact hqn, isMin_iff.mpr fun y hy => hl y (ring_trans h hx hq hy), c, rfl⟩)
      rw [ring_len] at this
      exact this
    · have h1 := (per_spec h hqn).2.1
      have : per a q = 1 := by omega
      rw [this]
      exact Nat.one_dvd m
theorem rings_disj (h : IsP n a) : ∀ m, m ≤ n → (ringsK a m).flatten.Nodup ∧ ∀ x ∈ (ringsK a m).flatten, ∃ q, q < m ∧ isMin a q = true ∧ x ∈ ring a q
  | 0, _ => ⟨List.nodup_nil, fun x hx => by cases hx⟩
  | m + 1, hm => by
    obtain ⟨i1, i2⟩ := rings_disj h m (by omega)
    rw [ringsK_succ]
    by_cases c : (isMin a m && decide (1 < per a m)) = true
    · rw [if_pos c, List.flatten_append]
      rw [Bool.and_eq_true] at c
      have e : [ring a m].flatten = ring a m := by simp
      rw [e]
      refine ⟨List.nodup_append.mpr ⟨i1, ring_nd h (by omega), fun x hx y hy e => ?_⟩, fun x hx => ?_⟩
      · subst e
        obtain ⟨q, q1, q2, q3⟩ := i2 x hx
        have hq : q < n := by omega
        have m1 : m ∈ ring a q := ring_trans h hq q3 (ring_symm h (by omega) hy)
        have := isMin_iff.mp c.1 q (ring_symm h hq m1)
        omega
      · rcases List.mem_append.mp hx with hx | hx
        · obtain ⟨q, q1, q2, q3⟩ := i2 x hx
          exact ⟨q, by omega, q2, q3⟩
        · exact ⟨m, by omega, c.1, hx⟩
    · rw [if_neg c, List.append_nil]
      exact ⟨i1, fun x hx => by
        obtain ⟨q, q1, q2, q3⟩ := i2 x hx
        exact ⟨q, by omega, q2, q3⟩⟩
theorem rings_sum (h : IsP n a) : (ringsN a).flatten.length ≤ n := by
  obtain ⟨i1, i2⟩ := rings_disj h n (Nat.le_refl n)
  unfold ringsN
  rw [h.len]
  have := nd_sub_len (m := List.range n) i1 fun x hx => by
    obtain ⟨q, q1, _, q3⟩ := i2 x hx
    exact List.mem_range.mpr (ring_lt h q1 q3)
  rw [List.length_range] at this
  exact this
theorem len_le_pow (l : Nat) : l ≤ 2 ^ l := Nat.le_of_lt Nat.lt_two_pow_self
theorem ageK_le : ∀ (rs : List (List Nat)), ageK rs ≤ 2 ^ rs.flatten.length := fun rs => by
  have g : ∀ (rs : List (List Nat)) (c : Nat), rs.foldl (fun m r => Nat.lcm m r.length) c ≤ c * 2 ^ rs.flatten.length := fun rs => by
    induction rs with
    | nil => intro c; simp
    | cons r rs ih =>
      intro c
      rw [List.foldl_cons, List.flatten_cons, List.length_append, Nat.pow_add, ← Nat.mul_assoc]
      refine Nat.le_trans (ih _) (Nat.mul_le_mul_right _ ?_)
      exact Nat.le_trans (Nat.div_le_self _ _) (Nat.mul_le_mul_left _ (len_le_pow _))
  have := g rs 1
  rw [Nat.one_mul] at this
  exact this
theorem ageK_pos {m : Nat} (h : ∀ r ∈ ringsK a m, 0 < r.length) : 0 < ageK (ringsK a m) := by
  have g : ∀ (rs : List (List Nat)) (c : Nat), 0 < c → (∀ r ∈ rs, 0 < r.length) → 0 < rs.foldl (fun m r => Nat.lcm m r.length) c := fun rs => by
    induction rs with
    | nil => intro c hc _; exact hc
    | cons r rs ih => intro c hc hr; exact ih _ (Nat.lcm_pos hc (hr r List.mem_cons_self)) fun q hq => hr q (List.mem_cons_of_mem _ hq)
  exact g _ 1 (by decide) h
end
theorem ageN_le {n : Nat} {a : List Nat} (h : IsP n a) (hn : n ≤ 16) : ageN a ≤ 65536 := by
  have h1 := ageK_le (ringsN a)
  have h2 := rings_sum h
  have h3 : 2 ^ (ringsN a).flatten.length ≤ 2 ^ 16 := Nat.pow_le_pow_right (by decide) (by omega)
  unfold ageN
  exact Nat.le_trans h1 h3
theorem ageN_pos {a : List Nat} : 0 < ageN a := by
  refine ageK_pos fun r hr => ?_
  obtain ⟨q, _, _, h, rfl⟩ := rings_mem.mp hr
  rw [ring_len]; omega
def sp_shared (K : PySem.W.Frag) (g : Gd) : Sp := fun vs H Q _ => ∃ (x y : Nat), vs = [.int (x : Int), .int (y : Int)] ∧ Q (.int (Nat.gcd x y : Nat)) H
theorem len_shared (K : PySem.W.Frag) (g : Gd) (vs : List V) (H : Hp) (Q : VK) (E : XK) (h : sp_shared K g vs H Q E) : vs.length = 2 := by obtain ⟨_, _, rfl, _⟩ := h; rfl
abbrev N_shared : List Str := ["one", "other", "kept"]
/-- shared -/
def t_shared (K : PySem.W.Frag) (g : Gd) (E : XK) : TS :=
  (tSeq (tWhile (tTest (tOp rNe (tVar 1) (tC (.int 0)))) (tSeq (tAsg (tOp rModI (tVar 0) (tVar 1)) (gName 2))
    (tSeq (tAsg (tVar 1) (gName 0))
    (tAsg (tVar 2) (gName 1)))))
    (tRet (tVar 0)))
theorem pure_shared {K : PySem.W.Frag} {g : Gd} (vs : List V) (H : Hp) (Q : VK) (E : XK) (h : sp_shared K g vs H Q E) : Rd1 (t_shared K g E) N_shared vs H Q := by
  obtain ⟨x, y, rfl, k⟩ := h
  unfold t_shared
  walk_at "rd"
  refine w_while ⟨fun m σ H' => ∃ (x' y' : Nat) (v : Option V), m = y' ∧ σ = [some (.int (x' : Int)), some (.int (y' : Int)), v] ∧ Nat.gcd x' y' = Nat.gcd x y ∧ H' = H, ⟨y, x, y, _, rfl, rfl, rfl, rfl⟩, ?_⟩
  rintro y' σ H' ⟨x', _, v, rfl, rfl, hg, rfl⟩
  walk_at "rd"
  refine if_nd (fun c => ?_) (fun c => ?_)
  · have hy : 0 < y' := by omega
    refine ⟨_, fun σ' H' h => ⟨x' % y', Nat.mod_lt _ hy, h⟩, ?_⟩
    walk_at "rd"
    refine mod_I (by omega) ?_
    walk_at "rd"
    refine ⟨y', x' % y', _, rfl, by rw [Int.natCast_emod] <;> rfl, ?_, rfl⟩
    rw [← hg, Nat.gcd_comm y', ← Nat.gcd_rec, Nat.gcd_comm]
  · have hy : y' = 0 := by omega
    subst hy
    rw [Nat.gcd_zero_right] at hg
    walk_at "rd"
    rw [hg]
    exact k
def sp_age (K : PySem.W.Frag) (g : Gd) : Sp := fun vs H Q E => ∃ (p : Addr) (a : List Int), vs = [.ref p] ∧ SqT K H p (vI a) ∧ a.length ≤ 1000 ∧
  (SeatB a = false → E (.ref g.NoSeating) none H) ∧ (∀ n a', a = a'.map (fun (x : Nat) => (x : Int)) → IsP n a' → 1 ≤ n → n ≤ 16 → ∀ H', Same H H' → Q (.int (ageN a' : Nat)) H')
theorem len_age (K : PySem.W.Frag) (g : Gd) (vs : List V) (H : Hp) (Q : VK) (E : XK) (h : sp_age K g vs H Q E) : vs.length = 1 := by obtain ⟨_, _, rfl, _⟩ := h; rfl
abbrev N_age : List Str := ["a", "many", "ring"]
/-- age -/
def t_age (K : PySem.W.Frag) (g : Gd) (E : XK) : TS :=
  (tSeq (tAsg (tC (.int 1)) (gName 1))
    (tSeq (tFor (iList K (tCallS (sp_rings K g) (WE (wE E)) (tCons (tVar 0) tNil))) (gName 2) (tAsg (tOp rMulI (tOp rDivI (tVar 1) (tCallS (sp_shared K g) (fun _ => E0) (tCons (tVar 1) (tCons (tCB (rLenQ K) (tCons (tVar 2) tNil)) tNil)))) (tCB (rLenQ K) (tCons (tVar 2) tNil))) (gName 1)))
    (tRet (tVar 1))))
theorem lcm_div (m n : Nat) : (m : Int) / (Nat.gcd m n : Nat) * (n : Int) = (Nat.lcm m n : Nat) := by
  rw [← Int.natCast_ediv, ← Int.natCast_mul]
  congr 1
  show m / Nat.gcd m n * n = m * n / Nat.gcd m n
  obtain ⟨c, hc⟩ := Nat.gcd_dvd_left m n
  by_cases z : Nat.gcd m n = 0
  · rw [z]; simp
  · generalize Nat.gcd m n = d at hc z
    subst hc
    rw [Nat.mul_div_cancel_left _ (Nat.pos_of_ne_zero z), Nat.mul_assoc, Nat.mul_div_cancel_left _ (Nat.pos_of_ne_zero z)]
theorem flat_take (rs : List (List Nat)) (i : Nat) : (rs.take i).flatten.length ≤ rs.flatten.length := by
  have := congrArg List.length (congrArg List.flatten (List.take_append_drop i rs))
  rw [List.flatten_append, List.length_append] at this
  omega
theorem pure_age {K : PySem.W.Frag} {g : Gd} (vs : List V) (H : Hp) (Q : VK) (E : XK) (h : sp_age K g vs H Q E) : Rd1 (t_age K g E) N_age vs H Q := by
  obtain ⟨p, a, rfl, hp, hla, e1, k⟩ := h
  unfold t_age
  walk_at "rd"
  refine ⟨p, a, rfl, hp, hla, e1, fun n b eb pb h1 h2 r H1 vs s hr0 hr hLT => ?_⟩
  have k := k n b eb pb h1 h2
  have hsum := rings_sum pb
  walk_at "rd"
  refine ⟨r, rfl, ⟨_, sqL hr⟩, for_list (K := K) (a := r) (xs := vs) (fun i σ H' => (∃ v, σ = [some (.ref p), some (.int (ageK ((ringsN b).take i) : Nat)), v]) ∧ H' = H1) ⟨⟨_, rfl⟩, rfl⟩ (fun i σ H' _ z => by rw [z.2]; exact sqL hr) ?_ ?_⟩
  · rintro i v σ H' hi ⟨⟨v0, rfl⟩, rfl⟩
    obtain ⟨q, x, rfl, hx, hq⟩ := hLT.get' hi
    have hle := ageK_le ((ringsN b).take i)
    have hft := flat_take (ringsN b) i
    have hpow : 2 ^ ((ringsN b).take i).flatten.length ≤ 2 ^ 16 := Nat.pow_le_pow_right (by decide) (by omega)
    have hle : ageK ((ringsN b).take i) ≤ 65536 := Nat.le_trans hle hpow
    have hxl : 0 < x.length := by
      obtain ⟨q, _, _, h, rfl⟩ := rings_mem.mp (List.mem_of_getElem? hx)
      rw [ring_len]; omega
    have hgp : 0 < Nat.gcd (ageK ((ringsN b).take i)) x.length := Nat.gcd_pos_of_pos_right _ hxl
    have hgl : Nat.gcd (ageK ((ringsN b).take i)) x.length ≤ x.length := Nat.le_of_dvd hxl (Nat.gcd_dvd_right _ _)
    have hx16 : x.length ≤ 16 := by
      have h3 : x.length ≤ (ringsN b).flatten.length := by
        have := List.sublist_flatten_of_mem (List.mem_of_getElem? hx)
        exact this.length_le
      omega
    refine (?_ : (tAsg _ _) _ _ _)
    walk_at "rd"
    refine len_TN (sqT hq) ?_
    walk_at "rd"
    refine ⟨_, _, rfl, ?_⟩
    refine div_I (by omega) (by omega) ?_
    walk_at "rd"
    refine len_TN (sqT hq) ?_
    refine mul_I (.inr ⟨by omega, by omega⟩) ?_
    refine ⟨⟨some (.ref q), ?_⟩, rfl⟩
    rw [take_more hx, ageK_snoc, lcm_div] <;> rfl
  · rintro σ H' ⟨⟨v0, rfl⟩, rfl⟩
    rw [hLT.len, List.take_length]
    walk_at "rd"
    exact k _ s
def sp_times (K : PySem.W.Frag) (g : Gd) : Sp := fun vs H Q E => ∃ (p : Addr) (a : List Int) (m : Int), vs = [.ref p, .int m] ∧ SqT K H p (vI a) ∧ a.length ≤ 1000 ∧
  (SeatB a = false → E (.ref g.NoSeating) none H) ∧ (∀ n a', a = a'.map (fun (x : Nat) => (x : Int)) → IsP n a' → 1 ≤ n → n ≤ 16 → NewT H (pw a' (m % (ageN a' : Nat)).toNat) Q)
theorem len_times (K : PySem.W.Frag) (g : Gd) (vs : List V) (H : Hp) (Q : VK) (E : XK) (h : sp_times K g vs H Q E) : vs.length = 2 := by obtain ⟨_, _, _, rfl, _⟩ := h; rfl
abbrev N_times : List Str := ["a", "n", "many", "made", "turn"]
/-- times -/
def t_times (K : PySem.W.Frag) (g : Gd) (E : XK) : TS :=
  (tSeq (tAsg (tOp rModI (tVar 1) (tCallS (sp_age K g) (WE (wE E)) (tCons (tVar 0) tNil))) (gName 2))
    (tSeq (tAsg (tCallS (sp_rest K g) (WE (wE E)) (tCons (tCB (rLenQ K) (tCons (tVar 0) tNil)) tNil)) (gName 3))
    (tSeq (tFor (iRng1 (tCons (tVar 2) tNil)) (gName 4) (tAsg (tCallS (sp_joined K g) (fun _ => E0) (tCons (tVar 3) (tCons (tVar 0) tNil))) (gName 3)))
    (tRet (tVar 3)))))
theorem pure_times {K : PySem.W.Frag} {g : Gd} (vs : List V) (H : Hp) (Q : VK) (E : XK) (h : sp_times K g vs H Q E) : Rd1 (t_times K g E) N_times vs H Q := by
  obtain ⟨p, a, m, rfl, hp, hla, e1, k⟩ := h
  unfold t_times
  walk_at "rd"
  refine ⟨p, a, rfl, hp, hla, e1, fun n b eb pb h1 h2 H1 s1 => ?_⟩
  have k := k n b eb pb h1 h2
  rw [eb, ← vN_eq] at hp
  have hpos := ageN_pos (a := b)
  have hle := ageN_le pb h2
  refine mod_I (by omega) ?_
  walk_at "rd"
  refine len_TN (s1.tup hp) ?_
  rw [pb.len]
  walk_at "rd"
  refine ⟨_, rfl, fun _ => ?_, fun c => absurd (by omega) c⟩
  intro r H2 s2 hr0 hr
  have s2 := s1.trans s2
  have b1 := Int.emod_nonneg m (b := ((ageN b : Nat) : Int)) (by omega)
  have b2 := Int.emod_lt_of_pos m (b := ((ageN b : Nat) : Int)) (by omega)
  have em : m % ((ageN b : Nat) : Int) = (((m % ((ageN b : Nat) : Int)).toNat : Nat) : Int) := by omega
  rw [em]
  generalize (m % ((ageN b : Nat) : Int)).toNat = t at *
  walk_at "rd"
  refine w_for1 (by omega) (fun i σ H' => ∃ (q : Addr) (v : Option V), σ = [some (.ref p), some (.int m), some (.int (t : Int)), some (.ref q), v] ∧ Same H H' ∧ H q = none ∧ H' q = some (.tup (vN (pw b i)))) ⟨r, _, rfl, s2, s1.free hr0, by rw [hr]; show _ = some (HO.tup (vN (List.range b.length))); rw [pb.len] <;> rfl⟩ ?_ ?_
  · rintro i σ H' hi ⟨q, v, rfl, s, hq0, hq⟩
    have pi := isP_pw pb i
    walk_at "rd"
    refine ⟨q, p, pw b i, b, rfl, sqT hq, s.tup hp, by rw [pi.len]; omega, fun x hx => by rw [pb.len]; exact pi.lt hx, fun q2 H3 s3 hq20 hq2 => ?_⟩
    exact ⟨q2, _, rfl, s.trans s3, s.free hq20, hq2⟩
  · rintro σ H' ⟨q, v, rfl, s, hq0, hq⟩
    walk_at "rd"
    exact k q H' s hq0 hq
end Shf

/-! the book: seatings by their steps, the table; mathematics alone -/
namespace Shf
open PySem L2
inductive Stp where
  | rest | move (i : Nat) | back (i : Nat) | thn (i j : Nat)
structure Bk where
  n : Nat
  steps : List Stp
  made : List (List Nat)
  rows : List (List (Nat × Nat))
  kept : List Nat
namespace Bk
def new (n : Nat) : Bk := ⟨n, [.rest], [List.range n], (List.range n).map fun k => [(k, 0)], []⟩
def note (B : Bk) (s : Stp) (a : List Nat) : Bk := { B with steps := B.steps ++ [s], made := B.made ++ [a] }
def mk' (B : Bk) (i : Nat) : List Nat := B.made.getD i []
def row (B : Bk) (k : Nat) : List (Nat × Nat) := B.rows.getD k []
end Bk
/-- what a row keeps for a seat -/
def rowGet (r : List (Nat × Nat)) (j : Nat) : Option Nat := (r.find? fun p => decide (p.1 = j)).map (·.2)
namespace Bk
/-- from seat k on: where it stops, what is left, the steps gone by -/
def siftGo (B : Bk) : Nat → Nat → List Nat → List Nat → Nat × List Nat × List Nat
  | 0, k, left, went => (k, left, went)
  | f + 1, k, left, went => match rowGet (B.row k) (left.getD k 0) with
    | none => (k, left, went)
    | some i => siftGo B f (k + 1) (jn left (trn (B.mk' i))) (went ++ [i])
def sift (B : Bk) (a : List Nat) : Nat × List Nat × List Nat := B.siftGo B.n 0 a []
def keepStep (s : Bk × List Nat × Nat) (one : Nat) : Bk × List Nat × Nat :=
  if one = 0 then s else
    ((s.1.note (.back one) (trn (s.1.mk' one))).note (.thn s.2.2 s.1.steps.length) (jn s.2.1 (trn (s.1.mk' one))), jn s.2.1 (trn (s.1.mk' one)), s.1.steps.length + 1)
def keepF (B : Bk) (i : Nat) (went : List Nat) : Bk × List Nat × Nat := went.foldl keepStep (B, B.mk' i, i)
def setRow (B : Bk) (k j i : Nat) : Bk := { B with rows := B.rows.set k (B.row k ++ [(j, i)]), kept := B.kept ++ [i] }
def keep (B : Bk) (i k : Nat) (went : List Nat) : Bk × Nat :=
  ((B.keepF i went).1.setRow k ((B.keepF i went).2.1.getD k 0) (B.keepF i went).2.2, (B.keepF i went).2.2)
def prs (i : Nat) (kept : List Nat) : List (Nat × Nat) := kept.flatMap fun o => [(i, o), (o, i)]
/-- one pair, taken from the end of what is to do -/
def closeStep (B : Bk) (t : List (Nat × Nat)) (p q : Nat) (grew : Bool) : Bk × List (Nat × Nat) × Bool :=
  if (B.sift (jn (B.mk' p) (B.mk' q))).1 < B.n then
    let B1 := if q = 0 then B else B.note (.thn p q) (jn (B.mk' p) (B.mk' q))
    let i := if q = 0 then p else B.steps.length
    let r := B1.keep i (B.sift (jn (B.mk' p) (B.mk' q))).1 (B.sift (jn (B.mk' p) (B.mk' q))).2.2
    (r.1, t ++ prs r.2 r.1.kept, true)
  else (B, t, grew)
def closeGo : Nat → Bk × List (Nat × Nat) × Bool → Bk × List (Nat × Nat) × Bool
  | 0, s => s
  | f + 1, s => match s.2.1.getLast? with
    | none => s
    | some pq => closeGo f (closeStep s.1 s.2.1.dropLast pq.1 pq.2 s.2.2)
def close (B : Bk) (first : Nat) : Bk × Bool := let r := closeGo 40000 (B, [(first, 0)], false); (r.1, r.2.2)
end Bk

/-! ### what holds of a book -/
def Fix (k : Nat) (a : List Nat) : Prop := ∀ x, x < k → a.getD x 0 = x
/-- a step shows the seating that it made -/
def StpOk (n : Nat) (moves made : List (List Nat)) (i : Nat) : Stp → Prop
  | .rest => made[i]? = some (List.range n)
  | .move j => ∃ a, moves[j]? = some a ∧ made[i]? = some a
  | .back j => j < i ∧ made[i]? = some (trn (made.getD j []))
  | .thn j l => j < i ∧ l < i ∧ made[i]? = some (jn (made.getD j []) (made.getD l []))
structure RowOk (n : Nat) (made : List (List Nat)) (kept : List Nat) (k : Nat) (r : List (Nat × Nat)) : Prop where
  nd : (r.map (·.1)).Nodup
  hd : (k, 0) ∈ r
  en : ∀ j i, (j, i) ∈ r → i < made.length ∧ Fix k (made.getD i []) ∧ (made.getD i []).getD k 0 = j ∧ (i = 0 ∨ i ∈ kept)
structure BkOk (B : Bk) (moves : List (List Nat)) : Prop where
  h1 : 1 ≤ B.n
  h2 : B.n ≤ 16
  len : B.steps.length = B.made.length
  m0 : B.made[0]? = some (List.range B.n)
  mp : ∀ a ∈ B.made, IsP B.n a
  val : ∀ i s, B.steps[i]? = some s → StpOk B.n moves B.made i s
  rl : B.rows.length = B.n
  row : ∀ k, k < B.n → RowOk B.n B.made B.kept k (B.row k)
  kp : ∀ i ∈ B.kept, ∃ k j, k < B.n ∧ (j, i) ∈ B.row k
  cnt : B.kept.length + B.n = (B.rows.map List.length).sum
  stb : B.steps.length ≤ 1 + moves.length + B.kept.length * (2 * B.n)

theorem rowGet_mem {r : List (Nat × Nat)} {j i : Nat} (h : rowGet r j = some i) : (j, i) ∈ r := by
  unfold rowGet at h
  cases e : r.find? (fun p => decide (p.1 = j)) with
  | none => rw [e] at h; cases h
  | some p =>
    rw [e] at h
    have h1 := List.find?_some e
    have h2 := List.mem_of_find?_eq_some e
    have h3 : p.2 = i := Option.some.inj h
    have h4 : p.1 = j := of_decide_eq_true h1
    rw [← h3, ← h4]
    exact h2
theorem rowGet_of {r : List (Nat × Nat)} (nd : (r.map (·.1)).Nodup) {j i : Nat} (h : (j, i) ∈ r) : rowGet r j = some i := by
  induction r with
  | nil => cases h
  | cons p r ih =>
    have nd : (p.1 :: r.map (·.1)).Nodup := nd
    obtain ⟨n1, n2⟩ := List.nodup_cons.mp nd
    unfold rowGet
    rw [List.find?_cons]
    rcases List.mem_cons.mp h with e | h
    · subst e
      simp
    · have hne : p.1 ≠ j := fun e => n1 (by rw [e]; exact List.mem_map.mpr ⟨_, h, rfl⟩)
      rw [decide_eq_false hne]
      exact ih n2 h
theorem rowGet_none {r : List (Nat × Nat)} {j : Nat} (h : rowGet r j = none) : ∀ i, (j, i) ∉ r := fun i hm => by
  unfold rowGet at h
  rw [Option.map_eq_none_iff, List.find?_eq_none] at h
  exact h _ hm (decide_eq_true rfl)
theorem rowGet_snoc {r : List (Nat × Nat)} {j i j' i' : Nat} (h : rowGet r j = some i) : rowGet (r ++ [(j', i')]) j = some i := by
  unfold rowGet at h ⊢
  rw [List.find?_append]
  cases e : r.find? (fun p => decide (p.1 = j)) with
  | none => rw [e] at h; cases h
  | some p => rw [e] at h; exact h
section
variable {B : Bk} {moves : List (List Nat)}
theorem BkOk.pos (h : BkOk B moves) : 0 < B.made.length := (List.getElem?_eq_some_iff.mp h.m0).1
theorem BkOk.mkP (h : BkOk B moves) {i : Nat} (hi : i < B.made.length) : IsP B.n (B.mk' i) := by
  refine h.mp _ ?_
  have : B.made[i]? = some (B.mk' i) := by unfold Bk.mk'; rw [List.getD_eq_getElem?_getD, List.getElem?_eq_getElem hi] <;> rfl
  exact List.mem_of_getElem? this
theorem BkOk.mk0 (h : BkOk B moves) : B.mk' 0 = List.range B.n := by unfold Bk.mk'; rw [List.getD_eq_getElem?_getD, h.m0] <;> rfl
theorem BkOk.get0 (h : BkOk B moves) {k : Nat} (hk : k < B.n) : rowGet (B.row k) k = some 0 := rowGet_of (h.row k hk).nd (h.row k hk).hd
/-- the table as it keeps: entries by seat -/
def Ent (B : Bk) (k i : Nat) : Prop := ∃ j, (j, i) ∈ B.row k
theorem Fix.jn {n k : Nat} {a b : List Nat} (ha : IsP n a) (hk : k ≤ n) (fa : Fix k a) (fb : Fix k b) : Fix k (Shf.jn a b) := fun x hx => by
  rw [jn_get (by rw [ha.len]; omega), fa x hx, fb x hx]
theorem Fix.trn {n k : Nat} {a : List Nat} (ha : IsP n a) (hk : k ≤ n) (fa : Fix k a) : Fix k (Shf.trn a) := fun x hx => by
  have := trn_get ha (i := x) (by omega)
  rw [fa x hx] at this
  exact this
theorem Fix.id_of {n : Nat} {a : List Nat} (ha : IsP n a) (fa : Fix n a) : a = List.range n := by
  refine ext_getD (by rw [ha.len, List.length_range]) fun i hi => ?_
  rw [ha.len] at hi
  rw [fa i hi, range_getD hi]
theorem fix_id (n k : Nat) (hk : k ≤ n) : Fix k (List.range n) := fun x hx => range_getD (by omega)
/-- sifting, from any place: what is known behind it -/
theorem siftGo_spec (h : BkOk B moves) : ∀ (f k : Nat) (left went : List Nat), k + f = B.n → IsP B.n left → Fix k left → (∀ i ∈ went, i < B.made.length) → went.length = k →
    let r := B.siftGo f k left went
    k ≤ r.1 ∧ r.1 ≤ B.n ∧ IsP B.n r.2.1 ∧ Fix r.1 r.2.1 ∧ (∀ i ∈ r.2.2, i < B.made.length) ∧ r.2.2.length = r.1 ∧ (r.1 < B.n → rowGet (B.row r.1) (r.2.1.getD r.1 0) = none)
  | 0, k, left, went, hk, hp, hf, hw, hl => ⟨Nat.le_refl _, by show k ≤ B.n; omega, hp, hf, hw, hl, fun c => absurd c (by show ¬ k < B.n; omega)⟩
  | f + 1, k, left, went, hk, hp, hf, hw, hl => by
    unfold Bk.siftGo
    cases e : rowGet (B.row k) (left.getD k 0) with
    | none => exact ⟨Nat.le_refl _, by show k ≤ B.n; omega, hp, hf, hw, hl, fun _ => e⟩
    | some i =>
      have ro := h.row k (by omega)
      obtain ⟨e1, e2, e3, e4⟩ := ro.en _ _ (rowGet_mem e)
      have pi := h.mkP e1
      have pt := isP_trn pi
      have hf' : Fix (k + 1) (jn left (trn (B.mk' i))) := fun x hx => by
        rw [jn_get (by rw [hp.len]; omega)]
        by_cases c : x = k
        · rw [c, ← e3]
          exact trn_get pi (by omega)
        · have := hf.jn hp (by omega) (Fix.trn pi (by omega) e2) x (by omega)
          rw [jn_get (by rw [hp.len]; omega)] at this
          exact this
      obtain ⟨g1, g2, g3, g4, g5, g6, g7⟩ := siftGo_spec h f (k + 1) (jn left (trn (B.mk' i))) (went ++ [i]) (by omega) (isP_jn hp pt) hf' (fun x hx => by
        rcases List.mem_append.mp hx with hx | hx
        · exact hw x hx
        · rw [List.mem_singleton.mp hx]; exact e1) (by rw [List.length_append, hl] <;> rfl)
      exact ⟨Nat.le_trans (Nat.le_succ k) g1, g2, g3, g4, g5, g6, g7⟩
theorem sift_spec (h : BkOk B moves) {a : List Nat} (ha : IsP B.n a) :
    (B.sift a).1 ≤ B.n ∧ IsP B.n (B.sift a).2.1 ∧ Fix (B.sift a).1 (B.sift a).2.1 ∧ (∀ i ∈ (B.sift a).2.2, i < B.made.length) ∧ (B.sift a).2.2.length = (B.sift a).1 ∧ ((B.sift a).1 < B.n → rowGet (B.row (B.sift a).1) ((B.sift a).2.1.getD (B.sift a).1 0) = none) := by
  obtain ⟨g1, g2, g3, g4, g5, g6, g7⟩ := siftGo_spec h B.n 0 a [] (by omega) ha (fun x hx => absurd hx (Nat.not_lt_zero x)) (fun i hi => by cases hi) rfl
  exact ⟨g2, g3, g4, g5, g6, g7⟩
/-- what is left is what went by the steps' ways back -/
def leftOf (B : Bk) (a : List Nat) (went : List Nat) : List Nat := went.foldl (fun l i => jn l (trn (B.mk' i))) a
theorem siftGo_left (B : Bk) (a : List Nat) : ∀ (f k : Nat) (left went : List Nat), left = leftOf B a went → (B.siftGo f k left went).2.1 = leftOf B a (B.siftGo f k left went).2.2
  | 0, _, _, _, e => e
  | f + 1, k, left, went, e => by
    unfold Bk.siftGo
    cases c : rowGet (B.row k) (left.getD k 0) with
    | none => exact e
    | some i =>
      refine siftGo_left B a f (k + 1) _ _ ?_
      unfold leftOf
      rw [List.foldl_append, e] <;> rfl
theorem sift_left (B : Bk) (a : List Nat) : (B.sift a).2.1 = leftOf B a (B.sift a).2.2 := siftGo_left B a B.n 0 a [] rfl
/-! ### noting a step -/
theorem getD_app {α : Type} {l : List α} {x d : α} {i : Nat} (h : i < l.length) : (l ++ [x]).getD i d = l.getD i d := by
  rw [List.getD_eq_getElem?_getD, List.getElem?_append_left h, ← List.getD_eq_getElem?_getD]
theorem getD_last {α : Type} {l : List α} {x d : α} : (l ++ [x]).getD l.length d = x := by
  rw [List.getD_eq_getElem?_getD, List.getElem?_append_right (Nat.le_refl _), Nat.sub_self] <;> rfl
theorem Bk.note_mk {s : Stp} {a : List Nat} {i : Nat} (hi : i < B.made.length) : (B.note s a).mk' i = B.mk' i := getD_app hi
theorem Bk.note_last {s : Stp} {a : List Nat} : (B.note s a).mk' B.made.length = a := getD_last
theorem Bk.note_len {s : Stp} {a : List Nat} : (B.note s a).made.length = B.made.length + 1 := by
  show (B.made ++ [a]).length = _
  rw [List.length_append] <;> rfl
theorem StpOk.app {n : Nat} {moves made : List (List Nat)} {i : Nat} {s : Stp} {a : List Nat} (hi : i < made.length) (h : StpOk n moves made i s) : StpOk n moves (made ++ [a]) i s := by
  have g : ∀ {j : Nat} {o : List Nat}, j < made.length → made[j]? = some o → (made ++ [a])[j]? = some o := fun hj e => by rw [List.getElem?_append_left hj]; exact e
  cases s with
  | rest => exact g hi h
  | move j => obtain ⟨b, h1, h2⟩ := h; exact ⟨b, h1, g hi h2⟩
  | back j =>
    obtain ⟨h1, h2⟩ := h
    refine ⟨h1, ?_⟩
    rw [getD_app (by omega)]
    exact g hi h2
  | thn j l =>
    obtain ⟨h1, h2, h3⟩ := h
    refine ⟨h1, h2, ?_⟩
    rw [getD_app (by omega), getD_app (by omega)]
    exact g hi h3
/-- BkOk but for the bound of the steps: a step more -/
structure BkPre (B : Bk) (moves : List (List Nat)) : Prop where
  h1 : 1 ≤ B.n
  h2 : B.n ≤ 16
  len : B.steps.length = B.made.length
  m0 : B.made[0]? = some (List.range B.n)
  mp : ∀ a ∈ B.made, IsP B.n a
  val : ∀ i s, B.steps[i]? = some s → StpOk B.n moves B.made i s
  rl : B.rows.length = B.n
  row : ∀ k, k < B.n → RowOk B.n B.made B.kept k (B.row k)
  kp : ∀ i ∈ B.kept, ∃ k j, k < B.n ∧ (j, i) ∈ B.row k
  cnt : B.kept.length + B.n = (B.rows.map List.length).sum
theorem BkOk.pre (h : BkOk B moves) : BkPre B moves := ⟨h.h1, h.h2, h.len, h.m0, h.mp, h.val, h.rl, h.row, h.kp, h.cnt⟩
theorem BkPre.ok (h : BkPre B moves) (s : B.steps.length ≤ 1 + moves.length + B.kept.length * (2 * B.n)) : BkOk B moves := ⟨h.h1, h.h2, h.len, h.m0, h.mp, h.val, h.rl, h.row, h.kp, h.cnt, s⟩
theorem RowOk.app {n : Nat} {made : List (List Nat)} {kept : List Nat} {k : Nat} {r : List (Nat × Nat)} {a : List Nat} (h : RowOk n made kept k r) : RowOk n (made ++ [a]) kept k r :=
  ⟨h.nd, h.hd, fun j i m => by
    obtain ⟨e1, e2, e3, e4⟩ := h.en j i m
    rw [getD_app e1]
    exact ⟨by rw [List.length_append]; show i < made.length + 1; omega, e2, e3, e4⟩⟩
theorem BkPre.note (h : BkPre B moves) {s : Stp} {a : List Nat} (ha : IsP B.n a) (hs : StpOk B.n moves (B.made ++ [a]) B.made.length s) : BkPre (B.note s a) moves where
  h1 := h.h1
  h2 := h.h2
  len := by show (B.steps ++ [s]).length = (B.made ++ [a]).length; rw [List.length_append, List.length_append, h.len] <;> rfl
  m0 := by
    show (B.made ++ [a])[0]? = _
    rw [List.getElem?_append_left (List.getElem?_eq_some_iff.mp h.m0).1]
    exact h.m0
  mp := fun x hx => by
    rcases List.mem_append.mp hx with hx | hx
    · exact h.mp x hx
    · rw [List.mem_singleton.mp hx]; exact ha
  val := fun i t ht => by
    by_cases c : i < B.steps.length
    · have ht' : B.steps[i]? = some t := by
        have : (B.steps ++ [s])[i]? = some t := ht
        rw [List.getElem?_append_left c] at this
        exact this
      exact (h.val i t ht').app (by rw [← h.len]; exact c)
    · have ht' : (B.steps ++ [s])[i]? = some t := ht
      have hi := (List.getElem?_eq_some_iff.mp ht').1
      rw [List.length_append] at hi
      have hi : i < B.steps.length + 1 := hi
      have e : i = B.steps.length := by omega
      subst e
      rw [List.getElem?_append_right (Nat.le_refl _), Nat.sub_self] at ht'
      have : s = t := Option.some.inj ht'
      subst this
      rw [h.len]
      exact hs
  rl := h.rl
  row := fun k hk => (h.row k hk).app
  kp := h.kp
  cnt := h.cnt
end
section
variable {B : Bk} {moves : List (List Nat)}
theorem trn_id (n : Nat) : trn (List.range n) = List.range n := by
  have h := jn_trn (isP_id n)
  have e : jn (List.range n) (trn (List.range n)) = trn (List.range n) := by
    have := id_jn (trn (List.range n))
    rw [trn_len, List.length_range] at this
    exact this
  rw [e] at h
  exact h
theorem BkPre.pos (h : BkPre B moves) : 0 < B.made.length := (List.getElem?_eq_some_iff.mp h.m0).1
theorem BkPre.mk0 (h : BkPre B moves) : B.mk' 0 = List.range B.n := by unfold Bk.mk'; rw [List.getD_eq_getElem?_getD, h.m0] <;> rfl
theorem BkPre.mkP (h : BkPre B moves) {i : Nat} (hi : i < B.made.length) : IsP B.n (B.mk' i) := by
  refine h.mp _ ?_
  have : B.made[i]? = some (B.mk' i) := by unfold Bk.mk'; rw [List.getD_eq_getElem?_getD, List.getElem?_eq_getElem hi] <;> rfl
  exact List.mem_of_getElem? this
/-- what the keeping of what is left has come to, behind some of the steps gone by -/
structure KS (B0 : Bk) (moves : List (List Nat)) (a : List Nat) (w : List Nat) (s : Bk × List Nat × Nat) : Prop where
  pre : BkPre s.1 moves
  en : s.1.n = B0.n
  er : s.1.rows = B0.rows
  ek : s.1.kept = B0.kept
  em : ∀ x, x < B0.made.length → s.1.mk' x = B0.mk' x
  el : B0.made.length ≤ s.1.made.length
  eg : s.2.1 = leftOf B0 a w
  pg : IsP B0.n s.2.1
  li : s.2.2 < s.1.made.length
  mi : s.1.mk' s.2.2 = s.2.1
  st : s.1.steps.length ≤ B0.steps.length + 2 * w.length
  pf : B0.steps <+: s.1.steps
  pm : B0.made <+: s.1.made
theorem KS.step {B0 : Bk} {a w : List Nat} {s : Bk × List Nat × Nat} (h0 : BkPre B0 moves) (h : KS B0 moves a w s) {o : Nat} (ho : o < B0.made.length) : KS B0 moves a (w ++ [o]) (Bk.keepStep s o) := by
  have hw : (w ++ [o]).length = w.length + 1 := by rw [List.length_append] <;> rfl
  have hlo : leftOf B0 a (w ++ [o]) = jn (leftOf B0 a w) (trn (B0.mk' o)) := by
    unfold leftOf
    rw [List.foldl_append] <;> rfl
  unfold Bk.keepStep
  by_cases c : o = 0
  · rw [if_pos c]
    refine { h with eg := ?_, st := by have := h.st; omega }
    rw [hlo, c, h0.mk0, trn_id, h.eg]
    have pg := h.pg
    rw [h.eg] at pg
    exact (jn_id fun x hx => pg.lt hx).symm
  · rw [if_neg c]
    have e1 := h.em o ho
    have po := h0.mkP ho
    have pt := isP_trn po
    have pj := isP_jn h.pg pt
    have hlt : o < s.1.made.length := Nat.lt_of_lt_of_le ho h.el
    have b1 : BkPre (s.1.note (.back o) (trn (s.1.mk' o))) moves := h.pre.note (by rw [h.en, e1]; exact pt) ⟨hlt, by
      rw [List.getElem?_append_right (Nat.le_refl _), Nat.sub_self, getD_app hlt] <;> rfl⟩
    have l1 : (s.1.note (.back o) (trn (s.1.mk' o))).made.length = s.1.made.length + 1 := Bk.note_len
    have hlen := h.pre.len
    have e2 : (s.1.note (.back o) (trn (s.1.mk' o))).mk' s.1.steps.length = trn (s.1.mk' o) := by rw [hlen]; exact Bk.note_last
    have e3 : (s.1.note (.back o) (trn (s.1.mk' o))).mk' s.2.2 = s.2.1 := by rw [Bk.note_mk h.li, h.mi]
    have b2 : BkPre ((s.1.note (.back o) (trn (s.1.mk' o))).note (.thn s.2.2 s.1.steps.length) (jn s.2.1 (trn (s.1.mk' o)))) moves := b1.note (by show IsP s.1.n _; rw [h.en, e1]; exact pj) ⟨by rw [l1]; have := h.li; omega, by rw [l1, hlen]; omega, by
      rw [List.getElem?_append_right (Nat.le_refl _), Nat.sub_self, getD_app (by rw [l1]; have := h.li; omega), getD_app (by rw [l1, hlen]; omega)]
      show some (jn s.2.1 (trn (s.1.mk' o))) = some (jn ((s.1.note (.back o) (trn (s.1.mk' o))).mk' s.2.2) ((s.1.note (.back o) (trn (s.1.mk' o))).mk' s.1.steps.length))
      rw [e2, e3]⟩
    refine ⟨b2, h.en, h.er, h.ek, fun x hx => ?_, ?_, ?_, by rw [e1]; exact pj, ?_, ?_, ?_, ?_, ?_⟩
    · have hx' := Nat.lt_of_lt_of_le hx h.el
      rw [Bk.note_mk (by rw [l1]; omega), Bk.note_mk hx', h.em x hx]
    · have := h.el
      show _ ≤ ((s.1.note (.back o) (trn (s.1.mk' o))).note _ _).made.length
      rw [Bk.note_len, l1]
      omega
    · show jn s.2.1 (trn (s.1.mk' o)) = _
      rw [hlo, e1, h.eg]
    · show s.1.steps.length + 1 < ((s.1.note (.back o) (trn (s.1.mk' o))).note _ _).made.length
      rw [Bk.note_len, l1, hlen]
      omega
    · show ((s.1.note (.back o) (trn (s.1.mk' o))).note _ _).mk' (s.1.steps.length + 1) = _
      rw [hlen, ← l1]
      exact Bk.note_last
    · show ((s.1.steps ++ [_]) ++ [_]).length ≤ _
      rw [List.length_append, List.length_append, hw]
      have := h.st
      show s.1.steps.length + 1 + 1 ≤ _
      omega
    · exact h.pf.trans ((List.prefix_append _ _).trans (List.prefix_append _ _))
    · exact h.pm.trans ((List.prefix_append _ _).trans (List.prefix_append _ _))
theorem KS.start {B0 : Bk} {i : Nat} (h0 : BkPre B0 moves) (hi : i < B0.made.length) : KS B0 moves (B0.mk' i) [] (B0, B0.mk' i, i) :=
  ⟨h0, rfl, rfl, rfl, fun _ _ => rfl, Nat.le_refl _, rfl, h0.mkP hi, hi, rfl, Nat.le_refl _, List.prefix_refl _, List.prefix_refl _⟩
theorem KS.fold {B0 : Bk} {a : List Nat} (h0 : BkPre B0 moves) : ∀ (r w : List Nat) (s : Bk × List Nat × Nat), KS B0 moves a w s → (∀ o ∈ r, o < B0.made.length) → KS B0 moves a (w ++ r) (r.foldl Bk.keepStep s)
  | [], w, s, h, _ => by rw [List.append_nil]; exact h
  | o :: r, w, s, h, hr => by
    have := KS.fold h0 r (w ++ [o]) _ (h.step h0 (hr o List.mem_cons_self)) fun x hx => hr x (List.mem_cons_of_mem _ hx)
    rw [List.append_assoc] at this
    exact this
theorem keepF_spec (h : BkPre B moves) {i : Nat} (hi : i < B.made.length) {went : List Nat} (hw : ∀ o ∈ went, o < B.made.length) : KS B moves (B.mk' i) went (B.keepF i went) :=
  KS.fold h went [] _ (KS.start h hi) hw
/-! ### a new entry of the table -/
theorem row_set {k k' : Nat} {r : List (Nat × Nat)} (hk : k < B.rows.length) : ({ B with rows := B.rows.set k r } : Bk).row k' = if k' = k then r else B.row k' := by
  unfold Bk.row
  show (B.rows.set k r).getD k' [] = _
  rw [List.getD_eq_getElem?_getD]
  by_cases c : k' = k
  · rw [if_pos c, c, List.getElem?_set_self hk] <;> rfl
  · rw [if_neg c, List.getElem?_set_ne (fun z => c z.symm), ← List.getD_eq_getElem?_getD]
theorem sum_set_len : ∀ (rs : List (List (Nat × Nat))) (k : Nat) (p : Nat × Nat), k < rs.length → ((rs.set k (rs.getD k [] ++ [p])).map List.length).sum = (rs.map List.length).sum + 1
  | [], k, _, h => absurd h (Nat.not_lt_zero k)
  | r :: rs, 0, p, _ => by
    show ((r ++ [p]).length + (rs.map List.length).sum) = r.length + (rs.map List.length).sum + 1
    rw [List.length_append]
    show r.length + 1 + _ = _
    omega
  | r :: rs, k + 1, p, h => by
    have ih := sum_set_len rs k p (by simpa using h)
    show r.length + ((rs.set k (rs.getD k [] ++ [p])).map List.length).sum = r.length + (rs.map List.length).sum + 1
    rw [ih]
    omega
theorem setRow_pre (h : BkPre B moves) {k j i : Nat} (hk : k < B.n) (hi : i < B.made.length) (hf : Fix k (B.mk' i)) (hj : (B.mk' i).getD k 0 = j) (hn : rowGet (B.row k) j = none) : BkPre (B.setRow k j i) moves where
  h1 := h.h1
  h2 := h.h2
  len := h.len
  m0 := h.m0
  mp := h.mp
  val := h.val
  rl := by show (B.rows.set k _).length = B.n; rw [List.length_set]; exact h.rl
  row := fun k' hk' => by
    have ro := h.row k' hk'
    have er : (B.setRow k j i).row k' = if k' = k then B.row k ++ [(j, i)] else B.row k' := row_set (by rw [h.rl]; exact hk)
    rw [er]
    by_cases c : k' = k
    · subst c
      rw [if_pos rfl]
      refine ⟨?_, List.mem_append_left _ ro.hd, fun j' i' m => ?_⟩
      · rw [List.map_append]
        refine List.nodup_append.mpr ⟨ro.nd, by simp, fun x hx y hy e => ?_⟩
        obtain ⟨p, hp, e1⟩ := List.mem_map.mp hx
        have e2 : y = j := by simpa using hy
        refine rowGet_none hn p.2 ?_
        have : p.1 = j := by rw [e1, e, e2]
        rw [← this]
        exact hp
      · rcases List.mem_append.mp m with m | m
        · obtain ⟨a1, a2, a3, a4⟩ := ro.en _ _ m
          exact ⟨a1, a2, a3, a4.imp id fun z => List.mem_append_left _ z⟩
        · have e := List.mem_singleton.mp m
          have e1 : j' = j := congrArg Prod.fst e
          have e2 : i' = i := congrArg Prod.snd e
          subst e1 e2
          exact ⟨hi, hf, hj, .inr (List.mem_append_right _ (List.mem_singleton.mpr rfl))⟩
    · rw [if_neg c]
      exact ⟨ro.nd, ro.hd, fun j' i' m => by
        obtain ⟨a1, a2, a3, a4⟩ := ro.en _ _ m
        exact ⟨a1, a2, a3, a4.imp id fun z => List.mem_append_left _ z⟩⟩
  kp := fun x hx => by
    have er : ∀ k', (B.setRow k j i).row k' = if k' = k then B.row k ++ [(j, i)] else B.row k' := fun k' => row_set (by rw [h.rl]; exact hk)
    rcases List.mem_append.mp hx with hx | hx
    · obtain ⟨k1, j1, a1, a2⟩ := h.kp x hx
      refine ⟨k1, j1, a1, ?_⟩
      rw [er]
      by_cases c : k1 = k
      · rw [if_pos c, ← c]; exact List.mem_append_left _ a2
      · rw [if_neg c]; exact a2
    · refine ⟨k, j, hk, ?_⟩
      rw [er, if_pos rfl, List.mem_singleton.mp hx]
      exact List.mem_append_right _ (List.mem_singleton.mpr rfl)
  cnt := by
    show (B.kept ++ [i]).length + B.n = ((B.rows.set k (B.rows.getD k [] ++ [(j, i)])).map List.length).sum
    rw [sum_set_len _ _ _ (by rw [h.rl]; exact hk), ← h.cnt, List.length_append]
    show B.kept.length + 1 + B.n = _
    omega
/-! ### how many are kept at the most -/
theorem row_len (h : BkPre B moves) {k : Nat} (hk : k < B.n) : (B.row k).length ≤ B.n - k := by
  have ro := h.row k hk
  have hl := nd_sub_len (m := (List.range (B.n - k)).map fun x => x + k) ro.nd fun x hx => by
    obtain ⟨p, hp, rfl⟩ := List.mem_map.mp hx
    obtain ⟨a1, a2, a3, _⟩ := ro.en p.1 p.2 hp
    have pp := h.mkP a1
    have hlt : p.1 < B.n := by rw [← a3]; exact pp.getD_lt hk
    have hge : k ≤ p.1 := by
      refine Decidable.byContradiction fun z => ?_
      have e1 : (B.mk' p.2).getD p.1 0 = p.1 := a2 p.1 (by omega)
      have e2 : (B.mk' p.2).getD k 0 = p.1 := a3
      have := nd_getD pp.nd (i := p.1) (j := k) (by rw [pp.len]; omega) (by rw [pp.len]; exact hk) (by rw [e1, e2])
      omega
    exact List.mem_map.mpr ⟨p.1 - k, List.mem_range.mpr (by omega), by omega⟩
  rw [List.length_map, List.length_map, List.length_range] at hl
  exact hl
theorem sum_tri : ∀ (rs : List (List (Nat × Nat))), (∀ k, k < rs.length → (rs.getD k []).length ≤ rs.length - k) → 2 * (rs.map List.length).sum ≤ rs.length * (rs.length + 1)
  | [], _ => Nat.zero_le _
  | r :: rs, h => by
    have h0 : r.length ≤ rs.length + 1 := h 0 (Nat.succ_pos _)
    have ih := sum_tri rs fun k hk => by
      have := h (k + 1) (by show k + 1 < rs.length + 1; omega)
      have e1 : (r :: rs).length - (k + 1) = rs.length - k := by show rs.length + 1 - (k + 1) = _; omega
      rw [e1] at this
      exact this
    show 2 * (r.length + (rs.map List.length).sum) ≤ (rs.length + 1) * (rs.length + 1 + 1)
    have e : (rs.length + 1) * (rs.length + 1 + 1) = rs.length * (rs.length + 1) + 2 * (rs.length + 1) := by
      rw [Nat.mul_add (rs.length + 1), Nat.mul_one, Nat.add_mul, Nat.one_mul]
      omega
    omega
theorem kept_le (h : BkPre B moves) : B.kept.length ≤ 120 := by
  have h1 := sum_tri B.rows fun k hk => by
    have := row_len h (k := k) (by rw [← h.rl]; exact hk)
    rw [h.rl]
    exact this
  have h2 := h.cnt
  have h3 := h.h2
  rw [← h2, h.rl] at h1
  -- n (n + 1) - 2 n <= 240
  have h4 : B.n * (B.n + 1) = B.n * (B.n - 1) + 2 * B.n := by
    have := h.h1
    obtain ⟨m, hm⟩ : ∃ m, B.n = m + 1 := ⟨B.n - 1, by omega⟩
    rw [hm, Nat.add_sub_cancel, Nat.mul_add (m + 1), Nat.mul_add (m + 1)]
    simp only [Nat.add_mul, Nat.one_mul, Nat.mul_one]
    omega
  have h5 : B.n * (B.n - 1) ≤ 16 * 15 := Nat.mul_le_mul h3 (by omega)
  omega
end
end Shf

/-! the book closed: mathematics alone -/
namespace Shf
open PySem L2
section
variable {B B' : Bk} {moves : List (List Nat)}
/-- a book that has grown out of another -/
structure Ext (B B' : Bk) : Prop where
  en : B'.n = B.n
  pm : B.made <+: B'.made
  pf : B.steps <+: B'.steps
  pk : B.kept <+: B'.kept
  rg : ∀ k j i, rowGet (B.row k) j = some i → rowGet (B'.row k) j = some i
theorem Ext.refl (B : Bk) : Ext B B := ⟨rfl, List.prefix_refl _, List.prefix_refl _, List.prefix_refl _, fun _ _ _ h => h⟩
theorem Ext.trans {B'' : Bk} (a : Ext B B') (b : Ext B' B'') : Ext B B'' := ⟨b.en.trans a.en, a.pm.trans b.pm, a.pf.trans b.pf, a.pk.trans b.pk, fun k j i h => b.rg k j i (a.rg k j i h)⟩
theorem prefix_getD {α : Type} {l m : List α} {d : α} (h : l <+: m) {i : Nat} (hi : i < l.length) : m.getD i d = l.getD i d := by
  obtain ⟨t, rfl⟩ := h
  rw [List.getD_eq_getElem?_getD, List.getElem?_append_left hi, ← List.getD_eq_getElem?_getD]
theorem Ext.mk_eq (e : Ext B B') {i : Nat} (hi : i < B.made.length) : B'.mk' i = B.mk' i := prefix_getD e.pm hi
theorem Ext.ml (e : Ext B B') : B.made.length ≤ B'.made.length := e.pm.length_le
/-- it goes back through the table to rest -/
def Sifts (B : Bk) (a : List Nat) : Prop := (B.sift a).1 = B.n
/-- as far as a sifting went, it goes the same way in a book grown out of it -/
theorem siftGo_ext (h : BkPre B moves) (e : Ext B B') : ∀ (f k : Nat) (left went : List Nat), k + f = B.n → (B.siftGo f k left went).1 = B.n → B'.siftGo f k left went = B.siftGo f k left went
  | 0, _, _, _, _, _ => rfl
  | f + 1, k, left, went, hk, hs => by
    unfold Bk.siftGo at hs ⊢
    cases c : rowGet (B.row k) (left.getD k 0) with
    | none =>
      rw [c] at hs
      have : k = B.n := hs
      omega
    | some i =>
      rw [c] at hs
      rw [e.rg k _ i c]
      have hi := ((h.row k (by omega)).en _ _ (rowGet_mem c)).1
      show B'.siftGo f (k + 1) (jn left (trn (B'.mk' i))) (went ++ [i]) = B.siftGo f (k + 1) (jn left (trn (B.mk' i))) (went ++ [i])
      rw [e.mk_eq hi]
      exact siftGo_ext h e f (k + 1) _ _ (by omega) hs
theorem Sifts.ext (h : BkPre B moves) (e : Ext B B') {a : List Nat} (s : Sifts B a) : Sifts B' a := by
  unfold Sifts Bk.sift at s ⊢
  rw [e.en, siftGo_ext h e B.n 0 a [] (by omega) s]
  exact s
/-- rest goes back from any place -/
theorem siftGo_id (h : BkPre B moves) : ∀ (f k : Nat) (went : List Nat), k + f = B.n → (B.siftGo f k (List.range B.n) went).1 = B.n
  | 0, k, went, hk => by show k = B.n; omega
  | f + 1, k, went, hk => by
    unfold Bk.siftGo
    rw [range_getD (by omega), rowGet_of (h.row k (by omega)).nd (h.row k (by omega)).hd]
    show (B.siftGo f (k + 1) (jn (List.range B.n) (trn (B.mk' 0))) (went ++ [0])).1 = B.n
    rw [h.mk0, trn_id]
    have e : jn (List.range B.n) (List.range B.n) = List.range B.n := by
      have := id_jn (List.range B.n)
      rw [List.length_range] at this
      exact this
    rw [e]
    exact siftGo_id h f (k + 1) _ (by omega)
theorem Sifts.id (h : BkPre B moves) : Sifts B (List.range B.n) := siftGo_id h B.n 0 [] (by omega)
/-- where a sifting stopped it goes on, once what is left is kept there -/
theorem siftGo_kept (h : BkPre B moves) (e : Ext B B') (h' : BkPre B' moves) {kk : Nat} {lf : List Nat} {i : Nat} (hi : i < B'.made.length) (hm : B'.mk' i = lf) (hg : rowGet (B'.row kk) (lf.getD kk 0) = some i) (hP : IsP B.n lf) :
    ∀ (f k : Nat) (left went : List Nat), k + f = B.n → (B.siftGo f k left went).1 = kk → kk < B.n → (B.siftGo f k left went).2.1 = lf → (B'.siftGo f k left went).1 = B.n
  | 0, k, left, went, hk, h1, h2, _ => by
    have : k = kk := h1
    omega
  | f + 1, k, left, went, hk, h1, h2, h3 => by
    unfold Bk.siftGo at h1 h3 ⊢
    cases c : rowGet (B.row k) (left.getD k 0) with
    | none =>
      rw [c] at h1 h3
      have e1 : k = kk := h1
      have e2 : left = lf := h3
      subst e1 e2
      rw [hg]
      show (B'.siftGo f (k + 1) (jn left (trn (B'.mk' i))) (went ++ [i])).1 = B.n
      rw [hm, jn_trn hP]
      have := siftGo_id h' f (k + 1) (went ++ [i]) (by rw [e.en]; omega)
      rw [e.en] at this
      exact this
    | some i' =>
      rw [c] at h1 h3
      rw [e.rg k _ i' c]
      have hi' := ((h.row k (by omega)).en _ _ (rowGet_mem c)).1
      show (B'.siftGo f (k + 1) (jn left (trn (B'.mk' i'))) (went ++ [i'])).1 = B.n
      rw [e.mk_eq hi']
      exact siftGo_kept h e h' hi hm hg hP f (k + 1) _ _ (by omega) h1 h2 h3
theorem rowGet_last {r : List (Nat × Nat)} {j i : Nat} (h : rowGet r j = none) : rowGet (r ++ [(j, i)]) j = some i := by
  unfold rowGet at h ⊢
  rw [Option.map_eq_none_iff] at h
  rw [List.find?_append, h, Option.none_or, List.find?_cons, decide_eq_true rfl] <;> rfl
/-- keeping: what it comes to -/
theorem keep_spec (h : BkPre B moves) {i k : Nat} (hi : i < B.made.length) {went : List Nat} (hw : ∀ o ∈ went, o < B.made.length) (hk : k < B.n) (hf : Fix k (leftOf B (B.mk' i) went)) (hn : rowGet (B.row k) ((leftOf B (B.mk' i) went).getD k 0) = none) :
    BkPre (B.keep i k went).1 moves ∧ Ext B (B.keep i k went).1 ∧ (B.keep i k went).1.kept = B.kept ++ [(B.keep i k went).2] ∧ (B.keep i k went).2 < (B.keep i k went).1.made.length ∧
    (B.keep i k went).1.mk' (B.keep i k went).2 = leftOf B (B.mk' i) went ∧ rowGet ((B.keep i k went).1.row k) ((leftOf B (B.mk' i) went).getD k 0) = some (B.keep i k went).2 ∧
    (B.keep i k went).1.steps.length ≤ B.steps.length + 2 * went.length := by
  have K := keepF_spec h hi hw
  unfold Bk.keep
  generalize B.keepF i went = s at K ⊢
  obtain ⟨B1, sg, i1⟩ := s
  obtain ⟨pre, en, er, ek, em, el, eg, pg, li, mi, st, pf, pm⟩ := K
  dsimp only at pre en er ek em el eg pg li mi st pf pm ⊢
  have erow : ∀ k', B1.row k' = B.row k' := fun k' => by unfold Bk.row; rw [er]
  subst eg
  have hk1 : k < B1.n := by rw [en]; exact hk
  have hn1 : rowGet (B1.row k) ((leftOf B (B.mk' i) went).getD k 0) = none := by rw [erow]; exact hn
  have P := setRow_pre pre hk1 li (by rw [mi]; exact hf) (by rw [mi]) hn1 (j := (leftOf B (B.mk' i) went).getD k 0)
  have rs : ∀ k', (B1.setRow k ((leftOf B (B.mk' i) went).getD k 0) i1).row k' = if k' = k then B1.row k ++ [((leftOf B (B.mk' i) went).getD k 0, i1)] else B1.row k' := fun k' => row_set (by rw [pre.rl]; exact hk1)
  refine ⟨P, ⟨en, pm, pf, ?_, fun k' j' i' hg => ?_⟩, ?_, li, mi, ?_, st⟩
  · show B.kept <+: B1.kept ++ [i1]
    rw [ek]
    exact List.prefix_append _ _
  · rw [rs]
    by_cases c : k' = k
    · rw [if_pos c]
      refine rowGet_snoc ?_
      rw [erow, ← c]
      exact hg
    · rw [if_neg c, erow]
      exact hg
  · show B1.kept ++ [i1] = _
    rw [ek]
  · rw [rs, if_pos rfl]
    exact rowGet_last hn1
/-- a step noted: the book has grown -/
theorem Ext.note (B : Bk) (s : Stp) (a : List Nat) : Ext B (B.note s a) := ⟨rfl, List.prefix_append _ _, List.prefix_append _ _, List.prefix_refl _, fun _ _ _ h => h⟩
theorem siftGo_note (B : Bk) (s : Stp) (a : List Nat) : ∀ (w : List Nat) (x : List Nat), (∀ o ∈ w, o < B.made.length) → leftOf (B.note s a) x w = leftOf B x w
  | [], x, _ => rfl
  | o :: w, x, h => by
    show leftOf (B.note s a) (jn x (trn ((B.note s a).mk' o))) w = leftOf B (jn x (trn (B.mk' o))) w
    rw [Bk.note_mk (h o List.mem_cons_self)]
    exact siftGo_note B s a w _ fun y hy => h y (List.mem_cons_of_mem _ hy)
/-- the book with the pair's own step -/
theorem closeMid (h : BkOk B moves) {p q : Nat} (hp : p < B.made.length) (hq : q < B.made.length) (hs : (B.sift (jn (B.mk' p) (B.mk' q))).1 < B.n) :
    ∃ (B1 : Bk) (i1 : Nat), B1 = (if q = 0 then B else B.note (.thn p q) (jn (B.mk' p) (B.mk' q))) ∧ i1 = (if q = 0 then p else B.steps.length) ∧ BkPre B1 moves ∧ Ext B B1 ∧ i1 < B1.made.length ∧ B1.mk' i1 = jn (B.mk' p) (B.mk' q) ∧
      B1.kept = B.kept ∧ (∀ k, B1.row k = B.row k) ∧ leftOf B1 (jn (B.mk' p) (B.mk' q)) (B.sift (jn (B.mk' p) (B.mk' q))).2.2 = (B.sift (jn (B.mk' p) (B.mk' q))).2.1 ∧ B1.steps.length ≤ B.steps.length + 1 := by
  have pp := h.mkP hp
  have pq := h.mkP hq
  have ps := isP_jn pp pq
  obtain ⟨g1, g2, g3, g4, g5, g6⟩ := sift_spec h ps
  have gl := sift_left B (jn (B.mk' p) (B.mk' q))
  by_cases c : q = 0
  · refine ⟨B, p, (if_pos c).symm, (if_pos c).symm, h.pre, Ext.refl B, hp, ?_, rfl, fun _ => rfl, gl.symm, Nat.le_succ _⟩
    rw [c, h.mk0, jn_id fun x hx => pp.lt hx]
  · refine ⟨B.note (.thn p q) (jn (B.mk' p) (B.mk' q)), B.steps.length, (if_neg c).symm, (if_neg c).symm, h.pre.note ps ⟨hp, hq, ?_⟩, Ext.note _ _ _, ?_, ?_, rfl, fun _ => rfl, ?_, ?_⟩
    · rw [List.getElem?_append_right (Nat.le_refl _), Nat.sub_self, getD_app hp, getD_app hq] <;> rfl
    · rw [Bk.note_len, h.len]; omega
    · rw [h.len]; exact Bk.note_last
    · rw [siftGo_note B _ _ _ _ g4]; exact gl.symm
    · show (B.steps ++ [_]).length ≤ _
      rw [List.length_append] <;> exact Nat.le_refl _
/-- one pair: what it comes to where it stops short -/
theorem closeStep_spec (h : BkOk B moves) {t : List (Nat × Nat)} {p q : Nat} {grew : Bool} (hp : p < B.made.length) (hq : q < B.made.length) (hs : (B.sift (jn (B.mk' p) (B.mk' q))).1 < B.n) :
    let r := B.closeStep t p q grew
    BkOk r.1 moves ∧ Ext B r.1 ∧ Sifts r.1 (jn (B.mk' p) (B.mk' q)) ∧ r.2.2 = true ∧ ∃ i, r.1.kept = B.kept ++ [i] ∧ i < r.1.made.length ∧ r.2.1 = t ++ Bk.prs i r.1.kept := by
  have pp := h.mkP hp
  have pq := h.mkP hq
  have ps := isP_jn pp pq
  obtain ⟨g1, g2, g3, g4, g5, g6⟩ := sift_spec h ps
  unfold Bk.closeStep
  rw [if_pos hs]
  obtain ⟨B1, i1, e1, e2, b1, x1, li, mi, k1, r1, l1, st1⟩ := closeMid h hp hq hs
  rw [← e1, ← e2]
  clear e1 e2
  have n1 : B1.n = B.n := x1.en
  have hk1 : (B.sift (jn (B.mk' p) (B.mk' q))).1 < B1.n := by rw [n1]; exact hs
  obtain ⟨K1, K2, K3, K4, K5, K6, K7⟩ := keep_spec b1 li (went := (B.sift (jn (B.mk' p) (B.mk' q))).2.2) (fun o ho => Nat.lt_of_lt_of_le (g4 o ho) x1.ml) hk1 (by rw [mi, l1]; exact g3) (by rw [mi, l1, r1]; exact g6 hs)
  rw [mi, l1] at K5 K6
  dsimp only
  refine ⟨K1.ok ?_, x1.trans K2, ?_, rfl, (B1.keep i1 _ _).2, by rw [K3, k1], K4, rfl⟩
  · rw [K3, List.length_append, k1]
    have a1 := h.stb
    have a2 : (B1.keep i1 (B.sift (jn (B.mk' p) (B.mk' q))).1 (B.sift (jn (B.mk' p) (B.mk' q))).2.2).1.n = B.n := by rw [K2.en, n1]
    rw [a2]
    rw [g5] at K7
    show _ ≤ 1 + moves.length + (B.kept.length + 1) * (2 * B.n)
    rw [Nat.add_mul, Nat.one_mul]
    omega
  · refine Eq.trans (siftGo_kept h.pre (x1.trans K2) K1 K4 K5 K6 g2 B.n 0 _ _ (by omega) rfl hs rfl |> fun z => ?_) (x1.trans K2).en.symm
    show (Bk.siftGo _ (B1.keep i1 _ _).1.n 0 _ _).1 = B.n
    rw [(x1.trans K2).en]
    exact z
/-- what holds while pairs are to do -/
structure CInv (moves : List (List Nat)) (B0 : Bk) (s : Bk × List (Nat × Nat) × Bool) : Prop where
  ok : BkOk s.1 moves
  ex : Ext B0 s.1
  td : ∀ pq ∈ s.2.1, pq.1 < s.1.made.length ∧ pq.2 < s.1.made.length
  cl : ∀ i ∈ s.1.kept, ∀ j ∈ s.1.kept, Sifts s.1 (jn (s.1.mk' i) (s.1.mk' j)) ∨ (i, j) ∈ s.2.1
  mv : ∀ m ∈ moves, Sifts s.1 m ∨ ∃ p, (p, 0) ∈ s.2.1 ∧ s.1.mk' p = m
  gr : s.2.2 = decide (B0.kept.length < s.1.kept.length)
  mu : (120 - s.1.kept.length) * 241 + s.2.1.length ≤ 28921
theorem prs_len (i : Nat) (ks : List Nat) : (Bk.prs i ks).length = 2 * ks.length := by
  unfold Bk.prs
  induction ks with
  | nil => rfl
  | cons k ks ih => rw [List.flatMap_cons, List.length_append, ih]; show 2 + 2 * ks.length = 2 * (ks.length + 1); omega
theorem prs_mem {i : Nat} {ks : List Nat} {pq : Nat × Nat} : pq ∈ Bk.prs i ks ↔ ∃ o ∈ ks, pq = (i, o) ∨ pq = (o, i) := by
  unfold Bk.prs
  rw [List.mem_flatMap]
  constructor
  · rintro ⟨o, ho, h⟩
    refine ⟨o, ho, ?_⟩
    rcases List.mem_cons.mp h with h | h
    · exact .inl h
    · exact .inr (List.mem_singleton.mp h)
  · rintro ⟨o, ho, h | h⟩
    · exact ⟨o, ho, by rw [h]; exact List.mem_cons_self⟩
    · exact ⟨o, ho, by rw [h]; exact List.mem_cons_of_mem _ (List.mem_singleton.mpr rfl)⟩
theorem kept_lt (h : BkPre B moves) : ∀ i ∈ B.kept, i < B.made.length := fun i hi => by
  obtain ⟨k, j, hk, m⟩ := h.kp i hi
  exact ((h.row k hk).en j i m).1
def muF (s : Bk × List (Nat × Nat) × Bool) : Nat := (120 - s.1.kept.length) * 241 + s.2.1.length
/-- one pair more is done -/
theorem CInv.step {B0 : Bk} {t : List (Nat × Nat)} {p q : Nat} {grew : Bool} (h : CInv moves B0 (B, t ++ [(p, q)], grew)) : CInv moves B0 (B.closeStep t p q grew) ∧ muF (B.closeStep t p q grew) < muF (B, t ++ [(p, q)], grew) := by
  obtain ⟨ok, ex, td, cl, mv, gr, hm⟩ := h
  dsimp only at ok ex td cl mv gr hm
  obtain ⟨hp, hq⟩ := td (p, q) (List.mem_append_right _ (List.mem_singleton.mpr rfl))
  have hp : p < B.made.length := hp
  have hq : q < B.made.length := hq
  have pp := ok.mkP hp
  have pq := ok.mkP hq
  have hl : (t ++ [(p, q)]).length = t.length + 1 := by rw [List.length_append] <;> rfl
  by_cases hs : (B.sift (jn (B.mk' p) (B.mk' q))).1 < B.n
  · obtain ⟨S1, S2, S3, S4, i, S5, S6, S7⟩ := closeStep_spec ok (t := t) (grew := grew) hp hq hs
    generalize B.closeStep t p q grew = r at S1 S2 S3 S4 S5 S6 S7 ⊢
    obtain ⟨B', t', g'⟩ := r
    dsimp only at S1 S2 S3 S4 S5 S6 S7 ⊢
    have kl := kept_le S1.pre
    have kl' : B'.kept.length = B.kept.length + 1 := by rw [S5, List.length_append] <;> rfl
    have tl' : t'.length = t.length + 2 * B'.kept.length := by rw [S7, List.length_append, prs_len]
    refine ⟨⟨S1, ex.trans S2, fun pq hpq => ?_, fun a ha b hb => ?_, fun m hm => ?_, ?_, ?_⟩, ?_⟩
    · have hpq : pq ∈ t ++ Bk.prs i B'.kept := by rw [← S7]; exact hpq
      rcases List.mem_append.mp hpq with hpq | hpq
      · obtain ⟨a, b⟩ := td pq (List.mem_append_left _ hpq)
        have := S2.ml
        exact ⟨by show pq.1 < B'.made.length; omega, by show pq.2 < B'.made.length; omega⟩
      · obtain ⟨o, ho, e | e⟩ := prs_mem.mp hpq
        · rw [e]; exact ⟨S6, kept_lt S1.pre o ho⟩
        · rw [e]; exact ⟨kept_lt S1.pre o ho, S6⟩
    · have ha : a ∈ B'.kept := ha
      have hb : b ∈ B'.kept := hb
      show Sifts B' _ ∨ (a, b) ∈ t'
      by_cases ca : a = i
      · right
        rw [S7]
        exact List.mem_append_right _ (prs_mem.mpr ⟨b, hb, .inl (by rw [ca])⟩)
      · by_cases cb : b = i
        · right
          rw [S7]
          exact List.mem_append_right _ (prs_mem.mpr ⟨a, ha, .inr (by rw [cb])⟩)
        · have ha0 : a ∈ B.kept := by rw [S5] at ha; exact (List.mem_append.mp ha).resolve_right fun z => ca (List.mem_singleton.mp z)
          have hb0 : b ∈ B.kept := by rw [S5] at hb; exact (List.mem_append.mp hb).resolve_right fun z => cb (List.mem_singleton.mp z)
          have ea := S2.mk_eq (kept_lt ok.pre a ha0)
          have eb := S2.mk_eq (kept_lt ok.pre b hb0)
          rw [ea, eb]
          rcases cl a ha0 b hb0 with c | c
          · exact .inl (c.ext ok.pre S2)
          · rcases List.mem_append.mp c with c | c
            · right; rw [S7]; exact List.mem_append_left _ c
            · have c := List.mem_singleton.mp c
              have c1 : a = p := congrArg Prod.fst c
              have c2 : b = q := congrArg Prod.snd c
              left
              rw [c1, c2]
              exact S3
    · rcases mv m hm with c | ⟨x, c, e⟩
      · exact .inl (c.ext ok.pre S2)
      · rcases List.mem_append.mp c with c | c
        · right
          refine ⟨x, by rw [S7]; exact List.mem_append_left _ c, ?_⟩
          rw [S2.mk_eq (td (x, 0) (List.mem_append_left _ c)).1]
          exact e
        · have c := List.mem_singleton.mp c
          have c1 : x = p := congrArg Prod.fst c
          have c2 : 0 = q := congrArg Prod.snd c
          left
          have : m = jn (B.mk' p) (B.mk' q) := by rw [← c2, ok.mk0, jn_id fun y hy => pp.lt hy, ← c1]; exact e.symm
          rw [this]
          exact S3
    · show g' = decide (B0.kept.length < B'.kept.length)
      have := ex.pk.length_le
      rw [S4, decide_eq_true (by omega)]
    · show (120 - B'.kept.length) * 241 + t'.length ≤ 28921
      rw [hl] at hm
      have e : 120 - B.kept.length = 120 - B'.kept.length + 1 := by omega
      rw [e, Nat.add_mul] at hm
      omega
    · show (120 - B'.kept.length) * 241 + t'.length < (120 - B.kept.length) * 241 + (t ++ [(p, q)]).length
      have e : 120 - B.kept.length = 120 - B'.kept.length + 1 := by omega
      rw [e, Nat.add_mul, hl]
      omega
  · have e : B.closeStep t p q grew = (B, t, grew) := by unfold Bk.closeStep; rw [if_neg hs]
    rw [e]
    have hsi : Sifts B (jn (B.mk' p) (B.mk' q)) := by
      have := (sift_spec ok (isP_jn pp pq)).1
      exact Nat.le_antisymm this (Nat.le_of_not_lt hs)
    refine ⟨⟨ok, ex, fun x hx => td x (List.mem_append_left _ hx), fun a ha b hb => ?_, fun m hm => ?_, gr, ?_⟩, ?_⟩
    · rcases cl a ha b hb with c | c
      · exact .inl c
      · rcases List.mem_append.mp c with c | c
        · exact .inr c
        · have c := List.mem_singleton.mp c
          have c1 : a = p := congrArg Prod.fst c
          have c2 : b = q := congrArg Prod.snd c
          left
          rw [c1, c2]
          exact hsi
    · rcases mv m hm with c | ⟨x, c, e⟩
      · exact .inl c
      · rcases List.mem_append.mp c with c | c
        · exact .inr ⟨x, c, e⟩
        · have c := List.mem_singleton.mp c
          have c1 : x = p := congrArg Prod.fst c
          have c2 : 0 = q := congrArg Prod.snd c
          left
          have : m = jn (B.mk' p) (B.mk' q) := by rw [← c2, ok.mk0, jn_id fun y hy => pp.lt hy, ← c1]; exact e.symm
          rw [this]
          exact hsi
    · show (120 - B.kept.length) * 241 + t.length ≤ 28921
      rw [hl] at hm
      omega
    · show (120 - B.kept.length) * 241 + t.length < (120 - B.kept.length) * 241 + (t ++ [(p, q)]).length
      rw [hl]
      omega
theorem snoc_of {α : Type} {l : List α} {x : α} (h : l.getLast? = some x) : l = l.dropLast ++ [x] := by
  cases l with
  | nil => cases h
  | cons a r =>
    rw [List.getLast?_eq_some_getLast (by simp)] at h
    rw [← Option.some.inj h]
    exact (List.dropLast_concat_getLast (by simp)).symm
theorem closeGo_spec {B0 : Bk} : ∀ (f : Nat) (s : Bk × List (Nat × Nat) × Bool), CInv moves B0 s → muF s ≤ f → CInv moves B0 (Bk.closeGo f s) ∧ (Bk.closeGo f s).2.1 = []
  | 0, s, h, hf => by
    have : s.2.1.length = 0 := by unfold muF at hf; omega
    exact ⟨h, List.length_eq_zero_iff.mp this⟩
  | f + 1, s, h, hf => by
    unfold Bk.closeGo
    cases c : s.2.1.getLast? with
    | none =>
      have : s.2.1 = [] := List.getLast?_eq_none_iff.mp c
      exact ⟨h, this⟩
    | some pq =>
      have e := snoc_of c
      have h' : CInv moves B0 (s.1, s.2.1.dropLast ++ [(pq.1, pq.2)], s.2.2) := by
        have : (s.1, s.2.1.dropLast ++ [(pq.1, pq.2)], s.2.2) = s := by rw [← e]
        rw [this]
        exact h
      obtain ⟨i1, i2⟩ := h'.step
      have i3 : muF (s.1, s.2.1.dropLast ++ [(pq.1, pq.2)], s.2.2) = muF s := by unfold muF; dsimp only; rw [← e]
      exact closeGo_spec f _ i1 (by omega)
/-- the table is closed: so it stands ahead of each putting in and behind it -/
structure Closed (B : Bk) (moves : List (List Nat)) : Prop where
  ok : BkOk B moves
  cl : ∀ i ∈ B.kept, ∀ j ∈ B.kept, Sifts B (jn (B.mk' i) (B.mk' j))
  mv : ∀ m ∈ moves, Sifts B m
theorem StpOk.more {n : Nat} {moves made : List (List Nat)} {i : Nat} {s : Stp} {m : List Nat} (h : StpOk n moves made i s) : StpOk n (moves ++ [m]) made i s := by
  cases s with
  | rest => exact h
  | move j =>
    obtain ⟨a, h1, h2⟩ := h
    exact ⟨a, by rw [List.getElem?_append_left (List.getElem?_eq_some_iff.mp h1).1]; exact h1, h2⟩
  | back j => exact h
  | thn j l => exact h
/-- a move is noted -/
theorem start_inv (h : Closed B moves) {m : List Nat} (hm : IsP B.n m) : CInv (moves ++ [m]) (B.note (.move moves.length) m) (B.note (.move moves.length) m, [(B.steps.length, 0)], false) := by
  have b0 : BkPre B (moves ++ [m]) := ⟨h.ok.h1, h.ok.h2, h.ok.len, h.ok.m0, h.ok.mp, fun i s hs => (h.ok.val i s hs).more, h.ok.rl, h.ok.row, h.ok.kp, h.ok.cnt⟩
  have b1 : BkPre (B.note (.move moves.length) m) (moves ++ [m]) := b0.note hm ⟨m, by
    rw [List.getElem?_append_right (Nat.le_refl _), Nat.sub_self] <;> rfl, by
    rw [List.getElem?_append_right (Nat.le_refl _), Nat.sub_self] <;> rfl⟩
  have hl := h.ok.len
  have x := Ext.note B (.move moves.length) m
  refine ⟨b1.ok ?_, Ext.refl _, fun pq hpq => ?_, fun i hi j hj => ?_, fun a ha => ?_, ?_, ?_⟩
  · show (B.steps ++ [_]).length ≤ 1 + (moves ++ [m]).length + B.kept.length * (2 * B.n)
    rw [List.length_append, List.length_append]
    have := h.ok.stb
    show B.steps.length + 1 ≤ 1 + (moves.length + 1) + B.kept.length * (2 * B.n)
    omega
  · rw [List.mem_singleton.mp hpq]
    refine ⟨?_, ?_⟩
    · show B.steps.length < (B.note _ _).made.length
      rw [Bk.note_len, hl]; omega
    · show 0 < (B.note _ _).made.length
      rw [Bk.note_len]; omega
  · left
    have hi : i ∈ B.kept := hi
    have hj : j ∈ B.kept := hj
    show Sifts (B.note _ _) (jn ((B.note _ _).mk' i) ((B.note _ _).mk' j))
    rw [x.mk_eq (kept_lt h.ok.pre i hi), x.mk_eq (kept_lt h.ok.pre j hj)]
    exact (h.cl i hi j hj).ext h.ok.pre x
  · rcases List.mem_append.mp ha with ha | ha
    · exact .inl ((h.mv a ha).ext h.ok.pre x)
    · right
      refine ⟨B.steps.length, List.mem_singleton.mpr rfl, ?_⟩
      rw [List.mem_singleton.mp ha]
      show (B.note _ _).mk' B.steps.length = m
      rw [hl]
      exact Bk.note_last
  · show false = decide (B.kept.length < B.kept.length)
    rw [decide_eq_false (Nat.lt_irrefl _)]
  · show (120 - B.kept.length) * 241 + 1 ≤ 28921
    omega
/-- a move put in: the book is closed again -/
def Bk.putMove (B : Bk) (j : Nat) (m : List Nat) : Bk × Bool := (B.note (.move j) m).close B.steps.length
theorem putMove_spec (h : Closed B moves) {m : List Nat} (hm : IsP B.n m) :
    Closed (B.putMove moves.length m).1 (moves ++ [m]) ∧ Ext B (B.putMove moves.length m).1 ∧ (B.putMove moves.length m).2 = decide (B.kept.length < (B.putMove moves.length m).1.kept.length) := by
  have I := start_inv h hm
  obtain ⟨J, e⟩ := closeGo_spec 40000 _ I (by
    have := I.mu
    show (120 - _) * 241 + _ ≤ 40000
    exact Nat.le_trans this (by decide))
  unfold Bk.putMove Bk.close
  generalize Bk.closeGo 40000 (B.note (.move moves.length) m, [(B.steps.length, 0)], false) = r at J e ⊢
  obtain ⟨B', t', g'⟩ := r
  dsimp only at e ⊢
  subst e
  refine ⟨⟨J.ok, fun i hi j hj => (J.cl i hi j hj).resolve_right fun z => (by cases z), fun a ha => (J.mv a ha).resolve_right fun ⟨p, z, _⟩ => by cases z⟩, (Ext.note B _ m).trans J.ex, J.gr⟩
theorem sum_ones : ∀ (l : List Nat), ((l.map fun k => [(k, 0)]).map List.length).sum = l.length
  | [] => rfl
  | x :: l => by
    show 1 + ((l.map fun k => [(k, 0)]).map List.length).sum = l.length + 1
    rw [sum_ones l]; omega
theorem new_ok {n : Nat} (h1 : 1 ≤ n) (h2 : n ≤ 16) : BkOk (Bk.new n) [] where
  h1 := h1
  h2 := h2
  len := rfl
  m0 := rfl
  mp := fun a ha => by rw [List.mem_singleton.mp ha]; exact isP_id n
  val := fun i s hs => by
    cases i with
    | zero => cases hs; exact rfl
    | succ i => cases hs
  rl := by show ((List.range n).map _).length = n; rw [List.length_map, List.length_range]
  row := fun k hk => by
    have hk : k < n := hk
    have e : (Bk.new n).row k = [(k, 0)] := by
      unfold Bk.row Bk.new
      rw [List.getD_eq_getElem?_getD, List.getElem?_map, List.getElem?_range hk] <;> rfl
    rw [e]
    refine ⟨by simp, List.mem_singleton.mpr rfl, fun j i m => ?_⟩
    have m := List.mem_singleton.mp m
    have e1 : j = k := congrArg Prod.fst m
    have e2 : i = 0 := congrArg Prod.snd m
    subst e1 e2
    exact ⟨Nat.zero_lt_one, fix_id n j (Nat.le_of_lt hk), range_getD hk, .inl rfl⟩
  kp := fun i hi => by cases hi
  cnt := by
    show 0 + n = (((List.range n).map fun k => [(k, 0)]).map List.length).sum
    rw [sum_ones, List.length_range, Nat.zero_add]
  stb := Nat.le_add_right 1 _
theorem new_closed {n : Nat} (h1 : 1 ≤ n) (h2 : n ≤ 16) : Closed (Bk.new n) [] := ⟨new_ok h1 h2, fun i hi => (List.not_mem_nil hi).elim, fun m hm => (List.not_mem_nil hm).elim⟩
end
end Shf

/-! rooms and books as they lie in memory -/
namespace Shf
open PySem L2
section
variable {α : Type} {f : α → List V} {H H' : Hp}
def Tu (H H' : Hp) : Prop := ∀ p xs, H p = some (.tup xs) → H' p = some (.tup xs)
/-- a list of tuples, each by its form -/
inductive LG (f : α → List V) (H : Hp) : List V → List α → Prop
  | nil : LG f H [] []
  | cons {p : Addr} {a : α} {vs : List V} {as : List α} : H p = some (.tup (f a)) → LG f H vs as → LG f H (.ref p :: vs) (a :: as)
theorem LG.tu (s : Tu H H') {vs : List V} {as : List α} (h : LG f H vs as) : LG f H' vs as := by
  induction h with
  | nil => exact .nil
  | cons h _ ih => exact .cons (s _ _ h) ih
theorem LG.snoc {p : Addr} {a : α} (hp : H p = some (.tup (f a))) {vs : List V} {as : List α} (h : LG f H vs as) : LG f H (vs ++ [.ref p]) (as ++ [a]) := by
  induction h with
  | nil => exact .cons hp .nil
  | cons h _ ih => exact .cons h ih
theorem LG.len {vs : List V} {as : List α} (h : LG f H vs as) : vs.length = as.length := by
  induction h with
  | nil => rfl
  | cons _ _ ih => simp [ih]
theorem LG.get {vs : List V} {as : List α} (h : LG f H vs as) : ∀ {i : Nat} {a : α}, as[i]? = some a → ∃ p, vs[i]? = some (.ref p) ∧ H p = some (.tup (f a)) := by
  induction h with
  | nil => intro i a e; simp at e
  | cons h _ ih =>
    intro i a e
    cases i with
    | zero => cases e; exact ⟨_, rfl, h⟩
    | succ i => exact ih (by simpa using e)
theorem LG.get' {vs : List V} {as : List α} (h : LG f H vs as) : ∀ {i : Nat} {v : V}, vs[i]? = some v → ∃ p a, v = .ref p ∧ as[i]? = some a ∧ H p = some (.tup (f a)) := by
  induction h with
  | nil => intro i a e; simp at e
  | cons h _ ih =>
    intro i a e
    cases i with
    | zero => cases e; exact ⟨_, _, rfl, rfl, h⟩
    | succ i => exact ih (by simpa using e)
theorem LG.last : ∀ {as : List α} {a : α} {vs : List V}, LG f H vs (as ++ [a]) → ∃ vs' q, vs = vs' ++ [V.ref q] ∧ LG f H vs' as ∧ H q = some (.tup (f a))
  | [], a, vs, h => by
    cases h with
    | cons h h' => cases h'; exact ⟨[], _, rfl, .nil, h⟩
  | b :: as, a, vs, h => by
    cases h with
    | cons h h' =>
      obtain ⟨vs', q, e, h1, h2⟩ := LG.last h'
      exact ⟨_ :: vs', q, by rw [e] <;> rfl, .cons h h1, h2⟩
theorem LG.lt {vs : List V} {as : List (List Nat)} (h : LG vN H vs as) : LT H vs as := by
  induction h with
  | nil => exact .nil
  | cons h _ ih => exact .cons h ih
theorem LT.lg {vs : List V} {as : List (List Nat)} (h : LT H vs as) : LG vN H vs as := by
  induction h with
  | nil => exact .nil
  | cons h _ ih => exact .cons h ih
theorem LT.tu (s : Tu H H') {vs : List V} {as : List (List Nat)} (h : LT H vs as) : LT H' vs as := (h.lg.tu s).lt
theorem _root_.L2.Same.tu (s : Same H H') : Tu H H' := fun p xs h => s p _ h
theorem Tu.trans {H2 : Hp} (a : Tu H H') (b : Tu H' H2) : Tu H H2 := fun p xs h => b p xs (a p xs h)
/-- all stands but what lies at some places -/
structure But (F : List Addr) (H H' : Hp) : Prop where
  s : ∀ a u, H a = some u → a ∉ F → H' a = some u
  t : Tu H H'
  f : ∀ a, H' a = none → H a = none
variable {F G : List Addr} {H1 : Hp}
theorem But.refl (F : List Addr) (H : Hp) : But F H H := ⟨fun _ _ h _ => h, fun _ _ h => h, fun _ h => h⟩
theorem But.of (s : Same H H') : But F H H' := ⟨fun a u h _ => s a u h, s.tu, fun _ h => s.free h⟩
theorem But.trans (a : But F H H') (b : But F H' H1) : But F H H1 := ⟨fun x u h n => b.s x u (a.s x u h n) n, a.t.trans b.t, fun x h => a.f x (b.f x h)⟩
theorem But.sub (h : ∀ a ∈ F, a ∈ G) (b : But F H H') : But G H H' := ⟨fun a u e n => b.s a u e fun z => n (h a z), b.t, b.f⟩
theorem But.new {p : Addr} {o : HO} (b : But F H H') (h : H' p = none) : But F H (upd H' p o) := b.trans (.of ((Same.refl H').new h))
theorem But.up {l : Addr} {o o0 : HO} (b : But F H H') (hl : H' l = some o0) (ht : ∀ xs, o0 ≠ .tup xs) (hf : l ∈ F) : But F H (upd H' l o) :=
  b.trans ⟨fun a u h n => by rw [upd_ne fun z => n (by rw [z]; exact hf)]; exact h, fun p xs h => by rw [upd_ne (ne_of h hl fun z => ht xs z.symm)]; exact h, fun a h => by
    by_cases e : a = l
    · rw [e, upd_same] at h; cases h
    · rw [upd_ne e] at h; exact h⟩
/-- of one's own, made since: it may change -/
theorem But.own {l : Addr} {o o0 : HO} (b : But F H H') (hl : H' l = some o0) (h0 : H l = none) : But F H (upd H' l o) :=
  ⟨fun a u h n => by rw [upd_ne (ne_of_none h h0)]; exact b.s a u h n, fun p xs h => by rw [upd_ne (ne_of_none h h0)]; exact b.t p xs h, fun a h => by
    by_cases e : a = l
    · rw [e, upd_same] at h; cases h
    · rw [upd_ne e] at h; exact b.f a h⟩
theorem But.some {a : Addr} {u : HO} (b : But F H H') (h : H a = Option.some u) : ∃ u', H' a = Option.some u' := by
  cases e : H' a with
  | none => rw [b.f a e] at h; cases h
  | some u' => exact ⟨u', rfl⟩
theorem But.same (b : But [] H H') : Same H H' := fun a u h => b.s a u h (fun z => by cases z)
/-- what stood at the start stands, as long as only newer things change -/
theorem _root_.L2.Same.past {H0 : Hp} (s : Same H0 H) (b : But F H H') (n : ∀ a ∈ F, H0 a = none) : Same H0 H' := fun a u e => b.s a u (s a u e) fun z => by
  rw [n a z] at e; cases e
theorem _root_.L2.Same.but (s : Same H H') : But F H H' := .of s
theorem But.tup {K : PySem.W.Frag} {a : Addr} {xs : List V} (b : But F H H') (h : H a = Option.some (.tup xs)) : SqT K H' a xs := sqT (b.t a xs h)
end
def stpV : Stp → List V
  | .rest => [.str "rest"]
  | .move i => [.str "move", .int (i : Int)]
  | .back i => [.str "back", .int (i : Int)]
  | .thn i j => [.str "then", .int (i : Int), .int (j : Int)]
def rowV (r : List (Nat × Nat)) : List (Key × V) := r.map fun p => ((Sum.inl (p.1 : Int) : Key), V.int (p.2 : Int))
theorem rowV_len (r : List (Nat × Nat)) : (rowV r).length = r.length := List.length_map ..
theorem rowV_get (j : Nat) : ∀ r : List (Nat × Nat), valV (rowV r) (Sum.inl (j : Int) : Key) = (rowGet r j).map fun (i : Nat) => V.int (i : Int)
  | [] => rfl
  | p :: r => by
    show valV (((Sum.inl (p.1 : Int) : Key), V.int (p.2 : Int)) :: rowV r) _ = _
    unfold rowGet
    rw [List.find?_cons]
    by_cases e : p.1 = j
    · rw [valV_pos (by show (Sum.inl (p.1 : Int) : Key) = _; rw [e]), decide_eq_true e] <;> rfl
    · rw [valV_neg (fun z => e (by have := Sum.inl.inj z; omega)), decide_eq_false e, rowV_get j r] <;> rfl
theorem rowV_put {r : List (Nat × Nat)} {j i : Nat} (h : rowGet r j = none) : putK (rowV r) (Sum.inl (j : Int) : Key) (V.int (i : Int)) = rowV (r ++ [(j, i)]) := by
  unfold putK
  rw [valV_any, rowV_get, h, if_neg (by simp)]
  unfold rowV
  rw [List.map_append] <;> rfl
/-- where a book lies -/
structure Ad where
  b : Addr
  ls : Addr
  lm : Addr
  lr : Addr
  lk : Addr
  ds : List Addr
def Ad.F (A : Ad) : List Addr := A.ls :: A.lm :: A.lk :: A.ds
def Ad.G (A : Ad) : List Addr := A.b :: A.ls :: A.lm :: A.lr :: A.lk :: A.ds
theorem Ad.fg (A : Ad) : ∀ a ∈ A.F, a ∈ A.G := fun a h => by
  unfold Ad.F at h
  unfold Ad.G
  simp only [List.mem_cons] at h ⊢
  rcases h with h | h | h | h <;> simp [h]
def bkF (A : Ad) (n : Nat) : List (Str × V) := [("size", .int (n : Int)), ("steps", .ref A.ls), ("made", .ref A.lm), ("rows", .ref A.lr), ("kept", .ref A.lk)]
structure BookAt (g : Gd) (H : Hp) (A : Ad) (B : Bk) : Prop where
  ob : ∃ dx, H A.b = some (.ins g.Book dx (bkF A B.n))
  st : ∃ vs, H A.ls = some (.lst vs) ∧ LG stpV H vs B.steps
  md : ∃ vs, H A.lm = some (.lst vs) ∧ LT H vs B.made
  rw : H A.lr = some (.lst (A.ds.map V.ref))
  dl : A.ds.length = B.n
  ro : ∀ k d, A.ds[k]? = some d → H d = some (.dK (rowV (B.row k)))
  kp : H A.lk = some (.lst (vN B.kept))
  nd : [A.ls, A.lm, A.lr, A.lk].Nodup
  nr : A.ds.Nodup
section
variable {g : Gd} {H H' : Hp} {A : Ad} {B : Bk} {K : PySem.W.Frag} {Q : VK}
theorem BookAt.fr (h : BookAt g H A B) (e : ∀ a u, H a = some u → a ∈ A.G ∨ (∃ xs, u = .tup xs) → H' a = some u) : BookAt g H' A B := by
  obtain ⟨⟨dx, ob⟩, ⟨vs, st, lst⟩, ⟨ms, md, lmd⟩, rw, dl, ro, kp, nd, nr⟩ := h
  have m : ∀ a ∈ A.ds, a ∈ A.G := fun a ha => by unfold Ad.G; simp [ha]
  have tu : Tu H H' := fun p xs hp => e p _ hp (.inr ⟨xs, rfl⟩)
  refine ⟨⟨dx, e _ _ ob (.inl (by simp [Ad.G]))⟩, ⟨vs, e _ _ st (.inl (by simp [Ad.G])), lst.tu tu⟩, ⟨ms, e _ _ md (.inl (by simp [Ad.G])), lmd.tu tu⟩, e _ _ rw (.inl (by simp [Ad.G])), dl, fun k d hd => ?_, e _ _ kp (.inl (by simp [Ad.G])), nd, nr⟩
  exact e _ _ (ro k d hd) (.inl (m d (List.mem_of_getElem? hd)))
theorem BookAt.same (h : BookAt g H A B) (s : Same H H') : BookAt g H' A B := h.fr fun a u e _ => s a u e
theorem BookAt.but {F : List Addr} (h : BookAt g H A B) (b : But F H H') (d : ∀ a ∈ A.G, a ∉ F) : BookAt g H' A B := h.fr fun a u e c => by
  rcases c with c | ⟨xs, rfl⟩
  · exact b.s a u e (d a c)
  · exact b.t a xs e
/-- what a book changes is no tuple and no instance -/
theorem BookAt.nt (h : BookAt g H A B) {a : Addr} (ha : a ∈ A.F) : ∃ o, H a = some o ∧ (∀ xs, o ≠ .tup xs) ∧ (∀ C dx fs, o ≠ .ins C dx fs) := by
  obtain ⟨_, ⟨vs, st, _⟩, ⟨ms, md, _⟩, _, _, ro, kp, _, _⟩ := h
  unfold Ad.F at ha
  simp only [List.mem_cons] at ha
  rcases ha with rfl | rfl | rfl | ha
  · exact ⟨_, st, fun _ z => (by cases z), fun _ _ _ z => (by cases z)⟩
  · exact ⟨_, md, fun _ z => (by cases z), fun _ _ _ z => (by cases z)⟩
  · exact ⟨_, kp, fun _ z => (by cases z), fun _ _ _ z => (by cases z)⟩
  · obtain ⟨k, hk, e⟩ := List.getElem_of_mem ha
    have := ro k a (by rw [List.getElem?_eq_getElem hk, e])
    exact ⟨_, this, fun _ z => (by cases z), fun _ _ _ z => (by cases z)⟩
theorem BookAt.full (h : BookAt g H A B) {a : Addr} (ha : a ∈ A.G) : ∃ u, H a = some u := by
  have hF := fun z : a ∈ A.F => h.nt z
  obtain ⟨⟨dx, ob⟩, _, _, rw, _, _, _, _, _⟩ := h
  by_cases c : a ∈ A.F
  · obtain ⟨o, e, _⟩ := hF c; exact ⟨o, e⟩
  · unfold Ad.G at ha
    unfold Ad.F at c
    simp only [List.mem_cons, not_or] at ha c
    rcases ha with rfl | z | z | rfl | z | z
    · exact ⟨_, ob⟩
    · exact absurd z c.1
    · exact absurd z c.2.1
    · exact ⟨_, rw⟩
    · exact absurd z c.2.2.1
    · exact absurd z c.2.2.2
/-! ### its fields -/
theorem BookAt.f_size (h : BookAt g H A B) (c : BkC K g) (q : Q (.int (B.n : Int)) H) : rFld K "size" (.ref A.b) H Q := by
  obtain ⟨dx, e⟩ := h.ob
  exact ⟨_, _, dx, _, _, rfl, e, c.cl, c.size, rfl, q⟩
theorem BookAt.f_steps (h : BookAt g H A B) (c : BkC K g) (q : Q (.ref A.ls) H) : rFld K "steps" (.ref A.b) H Q := by
  obtain ⟨dx, e⟩ := h.ob
  exact ⟨_, _, dx, _, _, rfl, e, c.cl, c.steps, rfl, q⟩
theorem BookAt.f_made (h : BookAt g H A B) (c : BkC K g) (q : Q (.ref A.lm) H) : rFld K "made" (.ref A.b) H Q := by
  obtain ⟨dx, e⟩ := h.ob
  exact ⟨_, _, dx, _, _, rfl, e, c.cl, c.made, rfl, q⟩
theorem BookAt.f_rows (h : BookAt g H A B) (c : BkC K g) (q : Q (.ref A.lr) H) : rFld K "rows" (.ref A.b) H Q := by
  obtain ⟨dx, e⟩ := h.ob
  exact ⟨_, _, dx, _, _, rfl, e, c.cl, c.rows, rfl, q⟩
theorem BookAt.f_kept (h : BookAt g H A B) (c : BkC K g) (q : Q (.ref A.lk) H) : rFld K "kept" (.ref A.b) H Q := by
  obtain ⟨dx, e⟩ := h.ob
  exact ⟨_, _, dx, _, _, rfl, e, c.cl, c.kept, rfl, q⟩
theorem BookAt.inst (h : BookAt g H A B) {m : Str} {R : Prop} (hm : (bkF A B.n).lookup m = none) (q : R) : ∃ a dx fs, V.ref A.b = .ref a ∧ H a = some (.ins g.Book dx fs) ∧ fs.lookup m = none ∧ R := by
  obtain ⟨dx, e⟩ := h.ob
  exact ⟨_, dx, _, rfl, e, hm, q⟩
theorem BookAt.made_get (h : BookAt g H A B) {i : Nat} (hi : i < B.made.length) : ∃ vs q, H A.lm = some (.lst vs) ∧ vs[i]? = some (.ref q) ∧ H q = some (.tup (vN (B.mk' i))) := by
  obtain ⟨vs, e, l⟩ := h.md
  have : B.made[i]? = some (B.mk' i) := by unfold Bk.mk'; rw [List.getD_eq_getElem?_getD, List.getElem?_eq_getElem hi] <;> rfl
  obtain ⟨q, h1, h2⟩ := l.get this
  exact ⟨vs, q, e, h1, h2⟩
/-- made[i] -/
theorem BookAt.ix_made (h : BookAt g H A B) {z : Int} {i : Nat} (hi : i < B.made.length) (e : z = (i : Int)) (q : ∀ p, H p = some (.tup (vN (B.mk' i))) → Q (.ref p) H) : rIxL K (.ref A.lm) (.int z) H Q := by
  obtain ⟨vs, p, h1, h2, h3⟩ := h.made_get hi
  exact ix_L (sqL h1) h2 e (q p h3)
theorem BookAt.ix_rows (h : BookAt g H A B) {z : Int} {k : Nat} (hk : k < B.n) (e : z = (k : Int)) (q : ∀ d, A.ds[k]? = some d → H d = some (.dK (rowV (B.row k))) → Q (.ref d) H) : rIxL K (.ref A.lr) (.int z) H Q := by
  have hk' : k < A.ds.length := by rw [h.dl]; exact hk
  have e1 : A.ds[k]? = some A.ds[k] := List.getElem?_eq_getElem hk'
  exact ix_L (sqL h.rw) (by rw [List.getElem?_map, e1] <;> rfl) e (q _ e1 (h.ro k _ e1))
/-- a step is noted -/
theorem BookAt.noted (h : BookAt g H A B) {vs ms : List V} {p q : Addr} {s : Stp} {a : List Nat} (hv : H A.ls = some (.lst vs)) (hm : H A.lm = some (.lst ms)) (hp : H p = some (.tup (stpV s))) (hq : H q = some (.tup (vN a))) :
    BookAt g (upd (upd H A.ls (.lst (vs ++ [.ref p]))) A.lm (.lst (ms ++ [.ref q]))) A (B.note s a) ∧ But A.F H (upd (upd H A.ls (.lst (vs ++ [.ref p]))) A.lm (.lst (ms ++ [.ref q]))) := by
  obtain ⟨⟨dx, ob⟩, ⟨vs', st, lst⟩, ⟨ms', md, lmd⟩, rw, dl, ro, kp, nd, nr⟩ := h
  cases (hv.symm.trans st)
  cases (hm.symm.trans md)
  have n1 : A.ls ≠ A.lm := fun z => by rw [z] at nd; simp at nd
  have n2 : A.lr ≠ A.ls := fun z => by rw [z] at nd; simp at nd
  have n3 : A.lr ≠ A.lm := fun z => by rw [z] at nd; simp at nd
  have n4 : A.lk ≠ A.ls := fun z => by rw [z] at nd; simp at nd
  have n5 : A.lk ≠ A.lm := fun z => by rw [z] at nd; simp at nd
  have b1 : But A.F H (upd H A.ls (.lst (vs ++ [.ref p]))) := (But.refl A.F H).up st (fun _ z => by cases z) (by simp [Ad.F])
  have b2 : But A.F H (upd (upd H A.ls (.lst (vs ++ [.ref p]))) A.lm (.lst (ms ++ [.ref q]))) := b1.up (o0 := .lst ms) (by rw [upd_ne n1.symm]; exact md) (fun _ z => by cases z) (by simp [Ad.F])
  refine ⟨⟨⟨dx, ?_⟩, ⟨_, by rw [upd_ne n1]; exact upd_same, (lst.tu b2.t).snoc (b2.t _ _ hp)⟩, ⟨_, upd_same, (lmd.tu b2.t).snoc (b2.t _ _ hq)⟩, ?_, dl, fun k d hd => ?_, ?_, nd, nr⟩, b2⟩
  · rw [upd_ne (ne_of ob md fun z => by cases z), upd_ne (ne_of ob st fun z => by cases z)]; exact ob
  · rw [upd_ne n3, upd_ne n2]; exact rw
  · have := ro k d hd
    rw [upd_ne (ne_of this md fun z => by cases z), upd_ne (ne_of this st fun z => by cases z)]; exact this
  · rw [upd_ne n5, upd_ne n4]; exact kp
/-- an entry of the table is made -/
theorem BookAt.rowed (h : BookAt g H A B) {k j i : Nat} {d : Addr} (hk : k < B.n) (hrl : B.rows.length = B.n) (hd : A.ds[k]? = some d) (hn : rowGet (B.row k) j = none) :
    BookAt g (upd (upd H d (.dK (putK (rowV (B.row k)) (Sum.inl (j : Int) : Key) (V.int (i : Int))))) A.lk (.lst (vN (B.kept ++ [i])))) A (B.setRow k j i) ∧
    But A.F H (upd (upd H d (.dK (putK (rowV (B.row k)) (Sum.inl (j : Int) : Key) (V.int (i : Int))))) A.lk (.lst (vN (B.kept ++ [i])))) := by
  obtain ⟨⟨dx, ob⟩, ⟨vs, st, lst⟩, ⟨ms, md, lmd⟩, rw, dl, ro, kp, nd, nr⟩ := h
  have hd0 := ro k d hd
  rw [rowV_put hn]
  have n1 : A.ls ≠ A.lk := fun z => by rw [z] at nd; simp at nd
  have n2 : A.lm ≠ A.lk := fun z => by rw [z] at nd; simp at nd
  have n3 : A.lr ≠ A.lk := fun z => by rw [z] at nd; simp at nd
  have b1 : But A.F H (upd H d (.dK (rowV (B.row k ++ [(j, i)])))) := (But.refl A.F H).up hd0 (fun _ z => by cases z) (by unfold Ad.F; simp [List.mem_of_getElem? hd])
  have b2 : But A.F H (upd (upd H d (.dK (rowV (B.row k ++ [(j, i)])))) A.lk (.lst (vN (B.kept ++ [i])))) := b1.up (o0 := .lst (vN B.kept)) (by rw [upd_ne (ne_of kp hd0 fun z => by cases z)]; exact kp) (fun _ z => by cases z) (by simp [Ad.F])
  refine ⟨⟨⟨dx, ?_⟩, ⟨vs, ?_, lst.tu b2.t⟩, ⟨ms, ?_, lmd.tu b2.t⟩, ?_, dl, fun k' d' hd' => ?_, upd_same, nd, nr⟩, b2⟩
  · rw [upd_ne (ne_of ob kp fun z => by cases z), upd_ne (ne_of ob hd0 fun z => by cases z)]; exact ob
  · rw [upd_ne n1, upd_ne (ne_of st hd0 fun z => by cases z)]; exact st
  · rw [upd_ne n2, upd_ne (ne_of md hd0 fun z => by cases z)]; exact md
  · rw [upd_ne n3, upd_ne (ne_of rw hd0 fun z => by cases z)]; exact rw
  · have h1 := ro k' d' hd'
    rw [upd_ne (ne_of h1 kp fun z => by cases z)]
    have er : (B.setRow k j i).row k' = if k' = k then B.row k ++ [(j, i)] else B.row k' := row_set (by rw [hrl]; exact hk)
    rw [er]
    by_cases c : k' = k
    · subst c
      rw [hd] at hd'
      cases hd'
      rw [if_pos rfl]
      exact upd_same
    · rw [if_neg c, upd_ne fun z => c ?_]
      · exact h1
      · subst z
        have e1 := List.getElem?_eq_some_iff.mp hd
        have e2 := List.getElem?_eq_some_iff.mp hd'
        obtain ⟨l1, e1⟩ := e1
        obtain ⟨l2, e2⟩ := e2
        have pw := List.pairwise_iff_getElem.mp nr
        rcases Nat.lt_trichotomy k' k with z | z | z
        · exact absurd (e2.trans e1.symm) (pw _ _ l2 l1 z)
        · exact z
        · exact absurd (e1.trans e2.symm) (pw _ _ l1 l2 z)
end
def sp_Book_note (K : PySem.W.Frag) (g : Gd) : Sp := fun vs H Q _ => ∃ (A : Ad) (B : Bk) (s : Stp) (a : List Nat) (p q : Addr), vs = [.ref A.b, .ref p, .ref q] ∧ BookAt g H A B ∧ H p = some (.tup (stpV s)) ∧ H q = some (.tup (vN a)) ∧
  B.steps.length < 90000 ∧ B.made.length < 90000 ∧ ∀ H', BookAt g H' A (B.note s a) → But A.F H H' → Q (.int (B.steps.length : Int)) H'
theorem len_Book_note (K : PySem.W.Frag) (g : Gd) (vs : List V) (H : Hp) (Q : VK) (E : XK) (h : sp_Book_note K g vs H Q E) : vs.length = 3 := by obtain ⟨_, _, _, _, _, _, rfl, _⟩ := h; rfl
--@facts Book.note r_Book
abbrev N_Book_note : List Str := ["self", "step", "seating"]
/-- Book.note -/
def t_Book_note (K : PySem.W.Frag) (g : Gd) (E : XK) : TS :=
  (tSeq (tDrop (tBM K "list" rAppend (tFld K (tVar 0) "steps") (tCons (tVar 1) tNil)))
    (tSeq (tDrop (tBM K "list" rAppend (tFld K (tVar 0) "made") (tCons (tVar 2) tNil)))
    (tRet (tOp rSubI (tCB (rLenQ K) (tCons (tFld K (tVar 0) "steps") tNil)) (tC (.int 1))))))
theorem pure_Book_note {K : PySem.W.Frag} {g : Gd} (cB : BkC K g) (vs : List V) (H : Hp) (Q : VK) (E : XK) (h : sp_Book_note K g vs H Q E) : Rd1 (t_Book_note K g E) N_Book_note vs H Q := by
  obtain ⟨A, B, s, a, p, q, rfl, hB, hp, hq, l1, l2, k⟩ := h
  obtain ⟨vs, hv, hvl⟩ := hB.st
  obtain ⟨ms, hm, hml⟩ := hB.md
  have N := hB.noted hv hm hp hq
  obtain ⟨N1, N2⟩ := N
  have nlm : A.lm ≠ A.ls := fun z => by have nd := hB.nd; rw [z] at nd; simp at nd
  unfold t_Book_note
  walk_at "rd"
  refine hB.f_steps cB ⟨isL (sqL hv), ?_⟩
  walk_at "rd"
  refine app_V hv (by rw [hvl.len]; omega) ?_
  walk_at "rd"
  have ob : ∃ dx, (upd H A.ls (.lst (vs ++ [.ref p]))) A.b = some (.ins g.Book dx (bkF A B.n)) := by
    obtain ⟨dx, ob⟩ := hB.ob
    exact ⟨dx, by rw [upd_ne (ne_of ob hv fun z => by cases z)]; exact ob⟩
  obtain ⟨dx, ob⟩ := ob
  have hm1 : (upd H A.ls (.lst (vs ++ [.ref p]))) A.lm = some (.lst ms) := by rw [upd_ne nlm]; exact hm
  refine ⟨_, _, dx, _, _, rfl, ob, cB.cl, cB.made, rfl, isL (sqL hm1), ?_⟩
  walk_at "rd"
  refine app_V hm1 (by rw [hml.len]; omega) ?_
  walk_at "rd"
  refine N1.f_steps cB ?_
  walk_at "rd"
  obtain ⟨vs2, h2, hl2⟩ := N1.st
  refine len_L (sqL h2) ?_
  walk_at "rd"
  have e : ((vs2.length : Nat) : Int) - 1 = (B.steps.length : Int) := by
    have : vs2.length = B.steps.length + 1 := by rw [hl2.len]; show (B.steps ++ [s]).length = _; rw [List.length_append] <;> rfl
    omega
  rw [e]
  exact k _ N1 N2
def sp_Book_sifted (K : PySem.W.Frag) (g : Gd) : Sp := fun vs H Q _ => ∃ (A : Ad) (B : Bk) (moves : List (List Nat)) (a : List Nat) (q : Addr), vs = [.ref A.b, .ref q] ∧ BookAt g H A B ∧ BkOk B moves ∧ IsP B.n a ∧ H q = some (.tup (vN a)) ∧
  ∀ (r ql w : Addr) (H' : Hp), Same H H' → H r = none → H' r = some (.tup [.int ((B.sift a).1 : Int), .ref ql, .ref w]) → H' ql = some (.tup (vN (B.sift a).2.1)) → H' w = some (.lst (vN (B.sift a).2.2)) → H w = none → Q (.ref r) H'
theorem len_Book_sifted (K : PySem.W.Frag) (g : Gd) (vs : List V) (H : Hp) (Q : VK) (E : XK) (h : sp_Book_sifted K g vs H Q E) : vs.length = 2 := by obtain ⟨_, _, _, _, _, rfl, _⟩ := h; rfl
--@facts Book.sifted r_Book
abbrev N_Book_sifted : List Str := ["self", "seating", "left", "went", "k", "at"]
/-- Book.sifted -/
def t_Book_sifted (K : PySem.W.Frag) (g : Gd) (E : XK) : TS :=
  (tSeq (tAsg (tVar 1) (gName 2))
    (tSeq (tAsg (tLst tNil) (gName 3))
    (tSeq (tFor (iRng1 (tCons (tFld K (tVar 0) "size") tNil)) (gName 4) (tSeq (tAsg (tDGet1 (tOp (rIxL K) (tFld K (tVar 0) "rows") (tVar 4)) (tOp (rIxT K) (tVar 2) (tVar 4))) (gName 5))
    (tSeq (tIfS (tTest (tOp rIsN (tVar 5) (tC .non))) (tRet (tTup (tCons (tVar 4) (tCons (tVar 2) (tCons (tVar 3) tNil))))) tNext)
    (tSeq (tDrop (tBM K "list" rAppend (tVar 3) (tCons (tVar 5) tNil)))
    (tAsg (tCallS (sp_joined K g) (fun _ => E0) (tCons (tVar 2) (tCons (tCallS (sp_turned K g) (fun _ => E0) (tCons (tOp (rIxL K) (tFld K (tVar 0) "made") (tVar 5)) tNil)) tNil))) (gName 2))))))
    (tRet (tTup (tCons (tFld K (tVar 0) "size") (tCons (tVar 2) (tCons (tVar 3) tNil))))))))
theorem pure_Book_sifted {K : PySem.W.Frag} {g : Gd} (cB : BkC K g) (vs : List V) (H : Hp) (Q : VK) (E : XK) (h : sp_Book_sifted K g vs H Q E) : Rd1 (t_Book_sifted K g E) N_Book_sifted vs H Q := by
  obtain ⟨A, B, moves, a, q, rfl, hB, ok, pa, hq, k⟩ := h
  unfold t_Book_sifted
  walk_at "rd"
  refine ⟨zl (Nat.zero_le _), fun w hw => ?_⟩
  have s1 := (Same.refl H).new (o := .lst []) hw
  walk_at "rd"
  refine (hB.same s1).f_size cB ?_
  refine w_for1 (by have := ok.h2; omega) (fun k σ H' => ∃ x y ql left went, σ = [some (.ref A.b), some (.ref q), some (.ref ql), some (.ref w), x, y] ∧ Same H H' ∧ H' ql = some (.tup (vN left)) ∧ H' w = some (.lst (vN went)) ∧
    B.siftGo (B.n - k) k left went = B.sift a ∧ IsP B.n left ∧ went.length = k) ⟨none, none, q, a, [], rfl, s1, s1 _ _ hq, upd_same, rfl, pa, rfl⟩ ?_ ?_
  · rintro i σ H1 hi ⟨x, y, ql, left, went, rfl, s, hql, hwl, hS, hp, hl⟩
    have hB1 := hB.same s
    have e1 : B.n - i = (B.n - (i + 1)) + 1 := by omega
    rw [e1] at hS
    unfold Bk.siftGo at hS
    walk_at "rd"
    refine hB1.f_rows cB ?_
    walk_at "rd"
    refine hB1.ix_rows hi rfl fun d hd hdd => ⟨d, rfl, .inl ⟨_, .inl hdd⟩, ?_⟩
    walk_at "rd"
    refine ix_TN (i := i) (sqT hql) (by rw [hp.len]; exact hi) rfl ?_
    refine ⟨_, DGet.k hdd (k := Sum.inl ((left.getD i 0 : Nat) : Int)), ?_⟩
    rw [rowV_get]
    walk_at "re"
    cases hg : rowGet (B.row i) (left.getD i 0) with
    | none =>
      rw [hg] at hS
      walk_at "rd"
      refine ⟨rfl, true, by rfl, if_t rfl ?_⟩
      walk_at "rd"
      refine ⟨zl (by show 3 ≤ 100000; omega), fun r hr => ?_⟩
      have es : B.sift a = (i, left, went) := hS.symm
      refine k r ql w _ (s.new hr) (s.free hr) ?_ ?_ ?_ ?_
      · rw [upd_same, es]
      · rw [upd_ne (ne_of_none hql hr), hql, es]
      · rw [upd_ne (ne_of_none hwl hr), hwl, es]
      · exact hw
    | some m =>
      rw [hg] at hS
      have em := (ok.row i hi).en _ _ (rowGet_mem hg)
      walk_at "rd"
      refine ⟨rfl, false, by rfl, if_f rfl ?_⟩
      walk_at "rd"
      refine ⟨isL (sqL hwl), ?_⟩
      walk_at "rd"
      refine app_N hwl (by have := ok.h2; omega) ?_
      have s2 : Same H (upd H1 w (.lst (vN (went ++ [m])))) := s.up hw
      have hB2 := hB.same s2
      have hql2 : (upd H1 w (.lst (vN (went ++ [m])))) ql = some (.tup (vN left)) := by rw [upd_ne (ne_of hql hwl fun z => by cases z)]; exact hql
      walk_at "rd"
      refine hB2.f_made cB ?_
      walk_at "rd"
      refine hB2.ix_made em.1 rfl fun p hp' => ?_
      walk_at "rd"
      have pm := ok.mkP em.1
      refine ⟨p, B.n, B.mk' m, rfl, sqT hp', pm, by have := ok.h2; omega, fun u H3 s3 hu hu3 => ?_⟩
      walk_at "rd"
      refine ⟨ql, u, left, trn (B.mk' m), rfl, sqT (s3 _ _ hql2), sqT hu3, by rw [hp.len]; have := ok.h2; omega, fun z hz => by rw [trn_len, pm.len]; exact hp.lt hz, fun v H4 s4 hv hv4 => ?_⟩
      refine ⟨_, _, v, jn left (trn (B.mk' m)), went ++ [m], rfl, s2.trans (s3.trans s4), hv4, s4 _ _ (s3 _ _ upd_same), hS, isP_jn hp (isP_trn pm), by rw [List.length_append, hl] <;> rfl⟩
  · rintro σ H1 ⟨x, y, ql, left, went, rfl, s, hql, hwl, hS, hp, hl⟩
    rw [Nat.sub_self] at hS
    have es : B.sift a = (B.n, left, went) := hS.symm
    walk_at "rd"
    refine (hB.same s).f_size cB ?_
    walk_at "rd"
    refine ⟨zl (by show 3 ≤ 100000; omega), fun r hr => ?_⟩
    refine k r ql w _ (s.new hr) (s.free hr) ?_ ?_ ?_ hw
    · rw [upd_same, es]
    · rw [upd_ne (ne_of_none hql hr), hql, es]
    · rw [upd_ne (ne_of_none hwl hr), hwl, es]
end Shf

/-! keeping and closing, walked -/
namespace Shf
open PySem L2
def sp_Book_keep (K : PySem.W.Frag) (g : Gd) : Sp := fun vs H Q _ => ∃ (A : Ad) (B : Bk) (moves : List (List Nat)) (i k : Nat) (went : List Nat) (w : Addr), vs = [.ref A.b, .int (i : Int), .int (k : Int), .ref w] ∧ BookAt g H A B ∧ BkPre B moves ∧ i < B.made.length ∧
  (∀ o ∈ went, o < B.made.length) ∧ H w = some (.lst (vN went)) ∧ w ∉ A.F ∧ k < B.n ∧ Fix k (leftOf B (B.mk' i) went) ∧ rowGet (B.row k) ((leftOf B (B.mk' i) went).getD k 0) = none ∧ B.steps.length ≤ 50000 ∧ went.length ≤ 16 ∧
  ∀ H', BookAt g H' A (B.keep i k went).1 → But A.F H H' → Q (.int ((B.keep i k went).2 : Int)) H'
theorem len_Book_keep (K : PySem.W.Frag) (g : Gd) (vs : List V) (H : Hp) (Q : VK) (E : XK) (h : sp_Book_keep K g vs H Q E) : vs.length = 4 := by obtain ⟨_, _, _, _, _, _, _, rfl, _⟩ := h; rfl
--@facts Book.keep r_Book
abbrev N_Book_keep : List Str := ["self", "at", "where", "went", "seating", "one", "way"]
/-- Book.keep -/
def t_Book_keep (K : PySem.W.Frag) (g : Gd) (E : XK) : TS :=
  (tSeq (tAsg (tOp (rIxL K) (tFld K (tVar 0) "made") (tVar 1)) (gName 4))
    (tSeq (tFor (iList K (tVar 3)) (gName 5) (tIfS (tTest (tOp rNe (tVar 5) (tC (.int 0)))) (tSeq (tAsg (tMethS g.Book "note" (sp_Book_note K g) (fun _ => E0) (tVar 0) (tCons (tTup (tCons (tC (.str "back")) (tCons (tVar 5) tNil))) (tCons (tCallS (sp_turned K g) (fun _ => E0) (tCons (tOp (rIxL K) (tFld K (tVar 0) "made") (tVar 5)) tNil)) tNil))) (gName 6))
    (tSeq (tAsg (tCallS (sp_joined K g) (fun _ => E0) (tCons (tVar 4) (tCons (tOp (rIxL K) (tFld K (tVar 0) "made") (tVar 6)) tNil))) (gName 4))
    (tAsg (tMethS g.Book "note" (sp_Book_note K g) (fun _ => E0) (tVar 0) (tCons (tTup (tCons (tC (.str "then")) (tCons (tVar 1) (tCons (tVar 6) tNil)))) (tCons (tVar 4) tNil))) (gName 1)))) tNext))
    (tSeq (sDPut (tOp (rIxL K) (tFld K (tVar 0) "rows") (tVar 2)) (tOp (rIxT K) (tVar 4) (tVar 2)) (tVar 1))
    (tSeq (tDrop (tBM K "list" rAppend (tFld K (tVar 0) "kept") (tCons (tVar 1) tNil)))
    (tRet (tVar 1))))))
theorem pure_Book_keep {K : PySem.W.Frag} {g : Gd} (cB : BkC K g) (vs : List V) (H : Hp) (Q : VK) (E : XK) (h : sp_Book_keep K g vs H Q E) : Rd1 (t_Book_keep K g E) N_Book_keep vs H Q := by
  obtain ⟨A, B, moves, i, k, went, w, rfl, hB, pre, hi, hwt, hw, hwF, hk, hf, hn, l1, l2, kk⟩ := h
  have h16 := pre.h2
  unfold t_Book_keep
  walk_at "rd"
  refine hB.f_made cB ?_
  walk_at "rd"
  refine hB.ix_made hi rfl fun q0 hq0 => ?_
  walk_at "rd"
  refine ⟨w, rfl, ⟨_, sqL hw⟩, for_list (K := K) (a := w) (xs := vN went) (fun m σ H' => ∃ (s : Bk × List Nat × Nat) (q : Addr) (x y : Option V), σ = [some (.ref A.b), some (.int (s.2.2 : Int)), some (.int (k : Int)), some (.ref w), some (.ref q), x, y] ∧
    s = (went.take m).foldl Bk.keepStep (B, B.mk' i, i) ∧ KS B moves (B.mk' i) (went.take m) s ∧ BookAt g H' A s.1 ∧ H' q = some (.tup (vN s.2.1)) ∧ But A.F H H') ?_ ?_ ?_ ?_⟩
  · exact ⟨(B, B.mk' i, i), q0, none, none, rfl, rfl, KS.start pre hi, hB, hq0, But.refl _ _⟩
  · rintro m σ H' _ ⟨s, q, x, y, rfl, es, ks, hB1, hq, b⟩
    exact sqL (b.s _ _ hw hwF)
  · rintro m z σ H1 hm ⟨s, q, x, y, rfl, es, ks, hB1, hq, b⟩
    obtain ⟨o, ho, rfl⟩ := vN_get hm
    have hol := hwt o (List.mem_of_getElem? ho)
    have ks2 := ks.step pre hol
    have tk := take_more ho
    rw [← tk] at ks2
    have es2 : Bk.keepStep s o = (went.take (m + 1)).foldl Bk.keepStep (B, B.mk' i, i) := by rw [tk, List.foldl_append, ← es] <;> rfl
    have st := ks.st
    have len := ks.pre.len
    have hl : (went.take m).length ≤ 16 := Nat.le_trans (by rw [List.length_take]; omega) l2
    have hol1 : o < s.1.made.length := Nat.lt_of_lt_of_le hol ks.el
    show tIfS _ _ _ _ (List.set _ 5 (some (V.int (o : Int)))) H1
    walk_at "rd"
    refine if_nd (fun c => ?_) (fun c => ?_)
    · have c : o ≠ 0 := fun z => c (by rw [z] <;> rfl)
      have eks : Bk.keepStep s o = ((s.1.note (.back o) (trn (s.1.mk' o))).note (.thn s.2.2 s.1.steps.length) (jn s.2.1 (trn (s.1.mk' o))), jn s.2.1 (trn (s.1.mk' o)), s.1.steps.length + 1) := by unfold Bk.keepStep; rw [if_neg c]
      rw [eks] at ks2 es2
      have po := ks.pre.mkP hol1
      walk_at "rd"
      refine hB1.inst (by rfl) ?_
      walk_at "rd"
      refine ⟨zl (by show 2 ≤ 100000; omega), fun p hp => ?_⟩
      have hB2 := hB1.same ((Same.refl H1).new (o := .tup [.str "back", .int (o : Int)]) hp)
      walk_at "rd"
      refine hB2.f_made cB ?_
      walk_at "rd"
      refine hB2.ix_made hol1 rfl fun u hu => ?_
      walk_at "rd"
      refine ⟨u, s.1.n, s.1.mk' o, rfl, sqT hu, po, by have := ks.pre.h2; omega, fun v H3 s3 hv hv3 => ?_⟩
      walk_at "rd"
      have hB3 := hB2.same s3
      refine ⟨A, s.1, .back o, trn (s.1.mk' o), p, v, rfl, hB3, s3 _ _ upd_same, hv3, by omega, by omega, fun H4 hB4 b4 => ?_⟩
      have bb : But A.F H1 H4 := ((But.of (s3)).trans b4 |> fun z => (But.of ((Same.refl H1).new hp)).trans z)
      have l1' : s.1.steps.length < (s.1.note (.back o) (trn (s.1.mk' o))).made.length := by rw [Bk.note_len]; omega
      have em : (s.1.note (.back o) (trn (s.1.mk' o))).mk' s.1.steps.length = trn (s.1.mk' o) := by rw [len]; exact Bk.note_last
      walk_at "rd"
      refine hB4.f_made cB ?_
      walk_at "rd"
      refine hB4.ix_made l1' rfl fun u2 hu2 => ?_
      rw [em] at hu2
      walk_at "rd"
      refine ⟨q, u2, s.2.1, trn (s.1.mk' o), rfl, sqT (bb.t _ _ hq), sqT hu2, by rw [ks.pg.len]; omega, fun z hz => by rw [trn_len, po.len, ks.en]; exact ks.pg.lt hz, fun v2 H5 s5 hv2 hv25 => ?_⟩
      have hB5 := hB4.same s5
      walk_at "rd"
      refine hB5.inst (by rfl) ?_
      walk_at "rd"
      refine ⟨zl (by show 3 ≤ 100000; omega), fun p2 hp2 => ?_⟩
      have hB6 := hB5.same ((Same.refl H5).new (o := .tup [.str "then", .int (s.2.2 : Int), .int (s.1.steps.length : Int)]) hp2)
      walk_at "rd"
      have ln : (s.1.note (.back o) (trn (s.1.mk' o))).steps.length = s.1.steps.length + 1 := by show (s.1.steps ++ [_]).length = _; rw [List.length_append] <;> rfl
      refine ⟨A, _, .thn s.2.2 s.1.steps.length, jn s.2.1 (trn (s.1.mk' o)), p2, v2, rfl, hB6, upd_same, by rw [upd_ne (ne_of_none hv25 hp2)]; exact hv25, by rw [ln]; omega, by rw [Bk.note_len]; omega, fun H7 hB7 b7 => ?_⟩
      rw [ln]
      refine ⟨_, v2, _, _, rfl, es2, ks2, hB7, b7.t _ _ (by rw [upd_ne (ne_of_none hv25 hp2)]; exact hv25), ?_⟩
      exact b.trans (bb.trans ((But.of s5).trans ((But.of ((Same.refl H5).new hp2)).trans b7)))
    · have c : o = 0 := by omega
      have eks : Bk.keepStep s o = s := by unfold Bk.keepStep; rw [if_pos c]
      rw [eks] at ks2 es2
      walk_at "rd"
      exact ⟨s, q, _, _, rfl, es2, ks2, hB1, hq, b⟩
  · rintro σ H1 ⟨s, q, x, y, rfl, es, ks, hB1, hq, b⟩
    rw [vN_len, List.take_length] at es ks
    have es : s = B.keepF i went := es
    have ek : B.keep i k went = (s.1.setRow k (s.2.1.getD k 0) s.2.2, s.2.2) := by unfold Bk.keep; rw [← es]
    have eg := ks.eg
    have hk1 : k < s.1.n := by rw [ks.en]; exact hk
    have hn1 : rowGet (s.1.row k) (s.2.1.getD k 0) = none := by
      have : s.1.row k = B.row k := by unfold Bk.row; rw [ks.er]
      rw [this, eg]
      exact hn
    have kl : s.1.kept.length ≤ 120 := kept_le ks.pre
    have rl := row_len ks.pre hk1
    have pg := ks.pg
    rw [ek] at kk
    walk_at "re"
    walk_at "sq"
    refine w_dput ?_
    walk_at "rd"
    refine hB1.f_rows cB ?_
    walk_at "rd"
    refine hB1.ix_rows hk1 rfl fun d hd hdd => ?_
    walk_at "rd"
    refine ix_TN (i := k) (sqT hq) (by rw [pg.len]; exact hk) rfl ?_
    obtain ⟨N1, N2⟩ := hB1.rowed (i := s.2.2) hk1 ks.pre.rl hd hn1
    refine ⟨d, _, rfl, DPut.k hdd (k := Sum.inl ((s.2.1.getD k 0 : Nat) : Int)) (zlt (by rw [rowV_len]; have := ks.pre.h2; omega)), ?_⟩
    have ob : ∃ dx, (upd H1 d (.dK (putK (rowV (s.1.row k)) (Sum.inl ((s.2.1.getD k 0 : Nat) : Int) : Key) (V.int (s.2.2 : Int))))) A.b = some (.ins g.Book dx (bkF A s.1.n)) := by
      obtain ⟨dx, ob⟩ := hB1.ob
      exact ⟨dx, by rw [upd_ne (ne_of ob hdd fun z => by cases z)]; exact ob⟩
    obtain ⟨dx, ob⟩ := ob
    have hk2 : (upd H1 d (.dK (putK (rowV (s.1.row k)) (Sum.inl ((s.2.1.getD k 0 : Nat) : Int) : Key) (V.int (s.2.2 : Int))))) A.lk = some (.lst (vN s.1.kept)) := by rw [upd_ne (ne_of hB1.kp hdd fun z => by cases z)]; exact hB1.kp
    walk_at "rd"
    refine ⟨_, _, dx, _, _, rfl, ob, cB.cl, cB.kept, rfl, isL (sqL hk2), ?_⟩
    walk_at "rd"
    refine app_N hk2 (by omega) ?_
    walk_at "rd"
    exact kk _ N1 (b.trans N2)
def prV (p : Nat × Nat) : List V := [.int (p.1 : Int), .int (p.2 : Int)]
theorem closeGo_nil (f : Nat) (s : Bk × List (Nat × Nat) × Bool) (h : s.2.1 = []) : Bk.closeGo f s = s := by
  cases f with
  | zero => rfl
  | succ f =>
    unfold Bk.closeGo
    rw [h] <;> rfl
theorem prs_snoc (i : Nat) (ks : List Nat) (o : Nat) : Bk.prs i (ks ++ [o]) = Bk.prs i ks ++ [(i, o), (o, i)] := by
  unfold Bk.prs
  rw [List.flatMap_append] <;> rfl
def sp_Book_close (K : PySem.W.Frag) (g : Gd) : Sp := fun vs H Q _ => ∃ (A : Ad) (B : Bk) (moves : List (List Nat)) (i : Nat), vs = [.ref A.b, .int (i : Int)] ∧ BookAt g H A B ∧ CInv moves B (B, [(i, 0)], false) ∧ moves.length ≤ 1000 ∧
  ∀ H', BookAt g H' A (B.close i).1 → But A.F H H' → Q (.bl (B.close i).2) H'
theorem len_Book_close (K : PySem.W.Frag) (g : Gd) (vs : List V) (H : Hp) (Q : VK) (E : XK) (h : sp_Book_close K g vs H Q E) : vs.length = 2 := by obtain ⟨_, _, _, _, rfl, _⟩ := h; rfl
--@facts Book.close r_Book
abbrev N_Book_close : List Str := ["self", "first", "grew", "todo", "pair", "seating", "found", "at", "new", "one"]
/-- Book.close -/
def t_Book_close (K : PySem.W.Frag) (g : Gd) (E : XK) : TS :=
  (tSeq (tAsg (tC (.bl false)) (gName 2))
    (tSeq (tAsg (tLst (tCons (tTup (tCons (tVar 1) (tCons (tC (.int 0)) tNil))) tNil)) (gName 3))
    (tSeq (tWhile (tTest (tOp rGtI (tCB (rLenQ K) (tCons (tVar 3) tNil)) (tC (.int 0)))) (tSeq (tAsg (tBM0 K "list" rPop (tVar 3)) (gName 4))
    (tSeq (tAsg (tCallS (sp_joined K g) (fun _ => E0) (tCons (tOp (rIxL K) (tFld K (tVar 0) "made") (tOp (rIxT K) (tVar 4) (tC (.int 0)))) (tCons (tOp (rIxL K) (tFld K (tVar 0) "made") (tOp (rIxT K) (tVar 4) (tC (.int 1)))) tNil))) (gName 5))
    (tSeq (tAsg (tMethS g.Book "sifted" (sp_Book_sifted K g) (fun _ => E0) (tVar 0) (tCons (tVar 5) tNil)) (gName 6))
    (tIfS (tTest (tOp rLtI (tOp (rIxT K) (tVar 6) (tC (.int 0))) (tFld K (tVar 0) "size"))) (tSeq (tAsg (tOp (rIxT K) (tVar 4) (tC (.int 0))) (gName 7))
    (tSeq (tIfS (tTest (tOp rNe (tOp (rIxT K) (tVar 4) (tC (.int 1))) (tC (.int 0)))) (tAsg (tMethS g.Book "note" (sp_Book_note K g) (fun _ => E0) (tVar 0) (tCons (tTup (tCons (tC (.str "then")) (tCons (tOp (rIxT K) (tVar 4) (tC (.int 0))) (tCons (tOp (rIxT K) (tVar 4) (tC (.int 1))) tNil)))) (tCons (tVar 5) tNil))) (gName 7)) tNext)
    (tSeq (tAsg (tMethS g.Book "keep" (sp_Book_keep K g) (fun _ => E0) (tVar 0) (tCons (tVar 7) (tCons (tOp (rIxT K) (tVar 6) (tC (.int 0))) (tCons (tOp (rIxT K) (tVar 6) (tC (.int 2))) tNil)))) (gName 8))
    (tSeq (tAsg (tC (.bl true)) (gName 2))
    (tFor (iList K (tFld K (tVar 0) "kept")) (gName 9) (tSeq (tDrop (tBM K "list" rAppend (tVar 3) (tCons (tTup (tCons (tVar 8) (tCons (tVar 9) tNil))) tNil)))
    (tDrop (tBM K "list" rAppend (tVar 3) (tCons (tTup (tCons (tVar 9) (tCons (tVar 8) tNil))) tNil))))))))) tNext)))))
    (tRet (tVar 2)))))
theorem pure_Book_close {K : PySem.W.Frag} {g : Gd} (cB : BkC K g) (vs : List V) (H : Hp) (Q : VK) (E : XK) (h : sp_Book_close K g vs H Q E) : Rd1 (t_Book_close K g E) N_Book_close vs H Q := by
  obtain ⟨A, B, moves, i, rfl, hB, I0, hml, k⟩ := h
  have hmu0 : muF (B, [(i, 0)], false) ≤ 40000 := Nat.le_trans I0.mu (by decide)
  have ec : B.close i = ((Bk.closeGo 40000 (B, [(i, 0)], false)).1, (Bk.closeGo 40000 (B, [(i, 0)], false)).2.2) := rfl
  rw [ec] at k
  unfold t_Book_close
  walk_at "rd"
  refine ⟨zl (by show 2 ≤ 100000; omega), fun p0 hp0 => ?_⟩
  have s1 := (Same.refl H).new (o := .tup [.int (i : Int), .int 0]) hp0
  walk_at "rd"
  refine ⟨zl (by show 1 ≤ 100000; omega), fun t ht => ?_⟩
  have s2 := s1.new (o := .lst [.ref p0]) ht
  have ht0 : H t = none := s1.free ht
  have htF : t ∉ A.F := fun z => by
    obtain ⟨u, hu, _⟩ := hB.nt z
    rw [ht0] at hu; cases hu
  walk_at "rd"
  refine w_while ⟨fun m σ H' => ∃ (st : Bk × List (Nat × Nat) × Bool) (x4 x5 x6 x7 x8 x9 : Option V), muF st = m ∧ σ = [some (.ref A.b), some (.int (i : Int)), some (.bl st.2.2), some (.ref t), x4, x5, x6, x7, x8, x9] ∧ CInv moves B st ∧ BookAt g H' A st.1 ∧
    (∃ vs, H' t = some (.lst vs) ∧ LG prV H' vs st.2.1) ∧ But A.F H H' ∧ ∃ f, muF st ≤ f ∧ Bk.closeGo f st = Bk.closeGo 40000 (B, [(i, 0)], false), ⟨muF (B, [(i, 0)], false), (B, [(i, 0)], false), none, none, none, none, none, none, rfl, rfl, I0, hB.same s2, ⟨_, upd_same, .cons ?_ .nil⟩, But.of s2, 40000, hmu0, rfl⟩, ?_⟩
  · rw [upd_ne (ne_of_none upd_same ht)]
    exact upd_same
  rintro m σ H1 ⟨⟨B1, td, gr⟩, x4, x5, x6, x7, x8, x9, hm, rfl, I, hB1, ⟨vs, hv, hl⟩, b, f, hf, hgo⟩
  dsimp only at hB1 hl
  have tlen : td.length ≤ 28921 := by have := I.mu; dsimp only at this; omega
  walk_at "rd"
  refine len_L (sqL hv) ?_
  walk_at "rd"
  refine if_d (fun c => ?_) (fun c => ?_)
  · -- one pair more
    have c : 0 < td.length := by rw [← hl.len]; omega
    obtain ⟨t', pq, etd⟩ : ∃ t' pq, td = t' ++ [pq] := ⟨td.dropLast, td.getLast (by intro z; rw [z] at c; exact Nat.lt_irrefl _ c), (List.dropLast_concat_getLast _).symm⟩
    obtain ⟨p, q⟩ := pq
    subst etd
    have I' := I
    obtain ⟨J1, J2⟩ := I'.step
    obtain ⟨f', rfl⟩ : ∃ f', f = f' + 1 := ⟨f - 1, by omega⟩
    have hgo' : Bk.closeGo f' (B1.closeStep t' p q gr) = Bk.closeGo 40000 (B, [(i, 0)], false) := by
      rw [← hgo]
      unfold Bk.closeGo
      rw [List.getLast?_concat]
      show _ = Bk.closeGo f' (B1.closeStep (t' ++ [(p, q)]).dropLast p q gr)
      rw [List.dropLast_concat]
      cases f' <;> rfl
    obtain ⟨hp, hq⟩ := I.td (p, q) (List.mem_append_right _ (List.mem_singleton.mpr rfl))
    have hp : p < B1.made.length := hp
    have hq : q < B1.made.length := hq
    have ok := I.ok
    dsimp only at ok
    have pp := ok.mkP hp
    have pq := ok.mkP hq
    have ps := isP_jn pp pq
    have h16 := ok.h2
    obtain ⟨vs', pa, rfl, hl', hpa⟩ := hl.last
    refine ⟨fun σ' H' => ∃ (st : Bk × List (Nat × Nat) × Bool) (x4 x5 x6 x7 x8 x9 : Option V), muF st < m ∧ σ' = [some (.ref A.b), some (.int (i : Int)), some (.bl st.2.2), some (.ref t), x4, x5, x6, x7, x8, x9] ∧ CInv moves B st ∧ BookAt g H' A st.1 ∧
      (∃ vs, H' t = some (.lst vs) ∧ LG prV H' vs st.2.1) ∧ But A.F H H' ∧ ∃ f, muF st ≤ f ∧ Bk.closeGo f st = Bk.closeGo 40000 (B, [(i, 0)], false), ?_, ?_⟩
    · rintro σ' H' ⟨st, x4, x5, x6, x7, x8, x9, h1, h2⟩
      exact ⟨_, h1, st, x4, x5, x6, x7, x8, x9, rfl, h2⟩
    walk_at "rd"
    refine ⟨isL (sqL hv), t, _, .ref pa, rfl, rfl, hv, ?_, ?_⟩
    · rw [List.length_append]
      show (vs' ++ [V.ref pa])[vs'.length + 1 - 1]? = _
      rw [Nat.add_sub_cancel, List.getElem?_append_right (Nat.le_refl _), Nat.sub_self] <;> rfl
    rw [List.dropLast_concat]
    have b2 : But A.F H (upd H1 t (.lst vs')) := b.own hv ht0
    have hB2 : BookAt g (upd H1 t (.lst vs')) A B1 := hB1.fr fun a u e cc => by
      rw [upd_ne]
      · exact e
      · rintro rfl
        rcases cc with cc | ⟨xs, rfl⟩
        · obtain ⟨u', hu'⟩ := hB.full cc
          rw [ht0] at hu'; cases hu'
        · rw [hv] at e; cases e
    have tu2 : Tu H1 (upd H1 t (.lst vs')) := fun z xs e => by rw [upd_ne (ne_of e hv fun z => by cases z)]; exact e
    have hl2 : LG prV (upd H1 t (.lst vs')) vs' t' := hl'.tu tu2
    have hv2 : (upd H1 t (.lst vs')) t = some (.lst vs') := upd_same
    have hpa2 := tu2 _ _ hpa
    generalize upd H1 t (.lst vs') = H2 at *
    clear hl' hpa hv hB1 b tu2 hl
    have hpT : SqT K H2 pa [.int (p : Int), .int (q : Int)] := sqT hpa2
    walk_at "rd"
    refine hB2.f_made cB ?_
    walk_at "rd"
    refine ix_T (i := 0) hpT rfl rfl ?_
    refine hB2.ix_made hp rfl fun u1 hu1 => ?_
    walk_at "rd"
    refine hB2.f_made cB ?_
    walk_at "rd"
    refine ix_T (i := 1) hpT rfl rfl ?_
    refine hB2.ix_made hq rfl fun u2 hu2 => ?_
    walk_at "rd"
    refine ⟨u1, u2, B1.mk' p, B1.mk' q, rfl, sqT hu1, sqT hu2, by rw [pp.len]; omega, fun z hz => by rw [pq.len]; exact pp.lt hz, fun sg H3 s3 hsg hsg3 => ?_⟩
    walk_at "rd"
    have hB3 := hB2.same s3
    refine hB3.inst (by rfl) ?_
    walk_at "rd"
    refine ⟨A, B1, moves, jn (B1.mk' p) (B1.mk' q), sg, rfl, hB3, ok, ps, hsg3, fun r ql w H4 s4 hr hr4 hql hw hw0 => ?_⟩
    have hB4 := hB3.same s4
    have s34 := s3.trans s4
    have hpT4 : SqT K H4 pa [.int (p : Int), .int (q : Int)] := sqT (s34 _ _ hpa2)
    have hrT : SqT K H4 r _ := sqT hr4
    have hv4 : H4 t = some (.lst vs') := s34 _ _ hv2
    have hl4 := hl2.tu s34.tu
    have b4 : But A.F H H4 := b2.trans (.of s34)
    have hsg4 := s4 _ _ hsg3
    obtain ⟨g1, g2, g3, g4, g5, g6⟩ := sift_spec ok ps
    walk_at "re"
    walk_at "st"
    walk_at "re"
    refine ix_T (i := 0) hrT rfl rfl ?_
    walk_at "re"
    refine hB4.f_size cB ?_
    walk_at "re"
    refine if_d (fun cs => ?_) (fun cs => ?_)
    · have cs : (B1.sift (jn (B1.mk' p) (B1.mk' q))).1 < B1.n := by omega
      obtain ⟨Bm, im, e1, e2, bm, xm, li, mi, km, rm, lm, stm⟩ := closeMid ok hp hq cs
      have ecs : B1.closeStep t' p q gr = ((Bm.keep im (B1.sift (jn (B1.mk' p) (B1.mk' q))).1 (B1.sift (jn (B1.mk' p) (B1.mk' q))).2.2).1, t' ++ Bk.prs (Bm.keep im (B1.sift (jn (B1.mk' p) (B1.mk' q))).1 (B1.sift (jn (B1.mk' p) (B1.mk' q))).2.2).2 (Bm.keep im (B1.sift (jn (B1.mk' p) (B1.mk' q))).1 (B1.sift (jn (B1.mk' p) (B1.mk' q))).2.2).1.kept, true) := by
        unfold Bk.closeStep
        rw [if_pos cs, e1, e2]
      have stb := ok.stb
      have kl := kept_le ok.pre
      have kl2 : B1.kept.length * (2 * B1.n) ≤ 120 * (2 * 16) := Nat.mul_le_mul kl (by omega)
      have oklen := ok.len
      rw [ecs] at J1 J2 hgo'
      clear ecs
      walk_at "re"
      walk_at "sq"
      walk_at "re"
      refine ix_T (i := 0) hpT4 rfl rfl ?_
      walk_at "re"
      walk_at "sq"
      refine w_join (t := tIfS _ _ _) (fun σ H' => ∃ x8 x9, σ = [some (.ref A.b), some (.int (i : Int)), some (.bl gr), some (.ref t), some (.ref pa), some (.ref sg), some (.ref r), some (.int (im : Int)), x8, x9] ∧ BookAt g H' A Bm ∧ But A.F H4 H' ∧ H' t = some (.lst vs') ∧ H' w = some (.lst (vN (B1.sift (jn (B1.mk' p) (B1.mk' q))).2.2))) ?_ fun key => ?_
      · rintro σ H5 ⟨y8, y9, rfl, hB5, b5, hv5, hw5⟩
        have hrT5 : SqT K H5 r _ := sqT (b5.t _ _ hr4)
        have hwF : w ∉ A.F := fun z => by
          obtain ⟨u, hu, _⟩ := hB3.nt z
          rw [hw0] at hu; cases hu
        walk_at "re"
        walk_at "sq"
        walk_at "re"
        refine hB5.inst (by rfl) ?_
        walk_at "re"
        refine ix_T (i := 0) hrT5 rfl rfl ?_
        walk_at "re"
        refine ix_T (i := 2) hrT5 rfl rfl ?_
        walk_at "re"
        refine ⟨A, Bm, moves, im, (B1.sift (jn (B1.mk' p) (B1.mk' q))).1, (B1.sift (jn (B1.mk' p) (B1.mk' q))).2.2, w, rfl, hB5, bm, li, fun o ho => Nat.lt_of_lt_of_le (g4 o ho) xm.ml, hw5, hwF, by rw [xm.en]; exact cs, by rw [mi, lm]; exact g3, by rw [mi, lm, rm]; exact g6 cs, by omega, by omega, fun H6 hB6 b6 => ?_⟩
        generalize Bm.keep im (B1.sift (jn (B1.mk' p) (B1.mk' q))).1 (B1.sift (jn (B1.mk' p) (B1.mk' q))).2.2 = R at *
        obtain ⟨B', new⟩ := R
        dsimp only at J1 J2 hgo' hB6 ⊢
        have b46 := b5.trans b6
        have hv6 : H6 t = some (.lst vs') := b6.s _ _ hv5 htF
        have hl6 : LG prV H6 vs' t' := hl4.tu b46.t
        have b06 := b4.trans b46
        have tl' : (t' ++ Bk.prs new B'.kept).length ≤ 28921 := by have := J1.mu; dsimp only at this; omega
        walk_at "rd"
        refine hB6.f_kept cB ?_
        refine ⟨A.lk, rfl, ⟨_, sqL hB6.kp⟩, for_list (K := K) (a := A.lk) (xs := vN B'.kept) (fun n σ H' => (∃ x9, σ = [some (.ref A.b), some (.int (i : Int)), some (.bl true), some (.ref t), some (.ref pa), some (.ref sg), some (.ref r), some (.int (im : Int)), some (.int (new : Int)), x9]) ∧ BookAt g H' A B' ∧ But A.F H H' ∧
          ∃ vs, H' t = some (.lst vs) ∧ LG prV H' vs (t' ++ Bk.prs new (B'.kept.take n))) ?_ ?_ ?_ ?_⟩
        · exact ⟨⟨_, rfl⟩, hB6, b06, vs', hv6, by rw [List.take_zero]; show LG prV H6 vs' (t' ++ []); rw [List.append_nil]; exact hl6⟩
        · rintro n σ H7 _ ⟨_, hB7, _⟩
          exact sqL hB7.kp
        · rintro n z σ H7 hn ⟨⟨y9, rfl⟩, hB7, b7, vs7, hv7, hl7⟩
          obtain ⟨o, ho, rfl⟩ := vN_get hn
          have tlen : (t' ++ Bk.prs new (B'.kept.take n)).length ≤ 28921 := by
            rw [List.length_append, prs_len] at tl' ⊢
            rw [List.length_take]
            omega
          show tSeq _ _ _ (List.set _ 9 (some (V.int (o : Int)))) H7
          walk_at "rd"
          refine ⟨isL (sqL hv7), ?_⟩
          walk_at "rd"
          refine ⟨zl (by show 2 ≤ 100000; omega), fun z1 hz1 => ?_⟩
          walk_at "rd"
          have hv8 : (upd H7 z1 (.tup [.int (new : Int), .int (o : Int)])) t = some (.lst vs7) := by rw [upd_ne (ne_of_none hv7 hz1)]; exact hv7
          refine app_V hv8 (by rw [hl7.len]; omega) ?_
          have hB8 : BookAt g (upd (upd H7 z1 (.tup [.int (new : Int), .int (o : Int)])) t (.lst (vs7 ++ [.ref z1]))) A B' := (hB7.same ((Same.refl H7).new (o := .tup [.int (new : Int), .int (o : Int)]) hz1)).fr fun a u e cc => by
            rw [upd_ne]
            · exact e
            · rintro rfl
              rcases cc with cc | ⟨xs, rfl⟩
              · obtain ⟨u', hu'⟩ := hB.full cc
                rw [ht0] at hu'; cases hu'
              · rw [hv8] at e; cases e
          have b8 : But A.F H (upd (upd H7 z1 (.tup [.int (new : Int), .int (o : Int)])) t (.lst (vs7 ++ [.ref z1]))) := (b7.new hz1).own hv8 ht0
          have tu8 : Tu H7 (upd (upd H7 z1 (.tup [.int (new : Int), .int (o : Int)])) t (.lst (vs7 ++ [.ref z1]))) := fun a xs e => by rw [upd_ne (ne_of e hv7 fun z => by cases z), upd_ne (ne_of_none e hz1)]; exact e
          have hz8 : (upd (upd H7 z1 (.tup [.int (new : Int), .int (o : Int)])) t (.lst (vs7 ++ [.ref z1]))) z1 = some (.tup (prV (new, o))) := by rw [upd_ne (ne_of_none hv7 hz1).symm]; exact upd_same
          have hl8 := (hl7.tu tu8).snoc (a := (new, o)) hz8
          have hv9 : (upd (upd H7 z1 (.tup [.int (new : Int), .int (o : Int)])) t (.lst (vs7 ++ [.ref z1]))) t = some (.lst (vs7 ++ [.ref z1])) := upd_same
          generalize upd (upd H7 z1 (.tup [.int (new : Int), .int (o : Int)])) t (.lst (vs7 ++ [.ref z1])) = H8 at *
          walk_at "rd"
          refine ⟨isL (sqL hv9), ?_⟩
          walk_at "rd"
          refine ⟨zl (by show 2 ≤ 100000; omega), fun z2 hz2 => ?_⟩
          walk_at "rd"
          have hv10 : (upd H8 z2 (.tup [.int (o : Int), .int (new : Int)])) t = some (.lst (vs7 ++ [.ref z1])) := by rw [upd_ne (ne_of_none hv9 hz2)]; exact hv9
          refine app_V hv10 (by rw [List.length_append, hl7.len]; show _ + 1 < _; omega) ?_
          refine ⟨⟨_, rfl⟩, ?_, (b8.new hz2).own hv10 ht0, _, upd_same, ?_⟩
          · refine (hB8.same ((Same.refl H8).new (o := .tup [.int (o : Int), .int (new : Int)]) hz2)).fr fun a u e cc => ?_
            rw [upd_ne]
            · exact e
            · rintro rfl
              rcases cc with cc | ⟨xs, rfl⟩
              · obtain ⟨u', hu'⟩ := hB.full cc
                rw [ht0] at hu'; cases hu'
              · rw [hv10] at e; cases e
          · rw [take_more ho, prs_snoc]
            have tu9 : Tu H8 (upd (upd H8 z2 (.tup [.int (o : Int), .int (new : Int)])) t (.lst (vs7 ++ [.ref z1] ++ [.ref z2]))) := fun a xs e => by rw [upd_ne (ne_of e hv9 fun z => by cases z), upd_ne (ne_of_none e hz2)]; exact e
            have hz9 : (upd (upd H8 z2 (.tup [.int (o : Int), .int (new : Int)])) t (.lst (vs7 ++ [.ref z1] ++ [.ref z2]))) z2 = some (.tup (prV (o, new))) := by rw [upd_ne (ne_of_none hv9 hz2).symm]; exact upd_same
            have := (hl8.tu tu9).snoc (a := (o, new)) hz9
            rw [List.append_assoc (t' ++ Bk.prs new (B'.kept.take n)) [(new, o)] [(o, new)]] at this
            rw [← List.append_assoc t']
            exact this
        · rintro σ H7 ⟨⟨y9, rfl⟩, hB7, b7, vs7, hv7, hl7⟩
          rw [vN_len, List.take_length] at hl7
          exact ⟨_, _, _, _, _, _, _, by omega, rfl, J1, hB7, ⟨vs7, hv7, hl7⟩, b7, f', by omega, hgo'⟩
      · walk_at "st"
        walk_at "re"
        refine ix_T (i := 1) hpT4 rfl rfl ?_
        walk_at "re"
        refine if_nd (fun cq => ?_) (fun cq => ?_)
        · have cq : q ≠ 0 := fun z => cq (by rw [z] <;> rfl)
          rw [if_neg cq] at e1 e2
          subst e1 e2
          walk_at "re"
          refine hB4.inst (by rfl) ?_
          walk_at "re"
          refine ix_T (i := 0) hpT4 rfl rfl ?_
          walk_at "re"
          refine ix_T (i := 1) hpT4 rfl rfl ?_
          walk_at "re"
          refine ⟨zl (by show 3 ≤ 100000; omega), fun z1 hz1 => ?_⟩
          have sz := (Same.refl H4).new (o := .tup [.str "then", .int (p : Int), .int (q : Int)]) hz1
          walk_at "re"
          refine ⟨A, B1, .thn p q, _, z1, sg, rfl, hB4.same sz, upd_same, sz _ _ hsg4, by omega, by omega, fun H5 hB5 b5 => ?_⟩
          have b45 := (But.of (F := A.F) sz).trans b5
          refine key _ _ ⟨_, _, rfl, hB5, b45, b45.s _ _ hv4 htF, b45.s _ _ hw fun z => ?_⟩
          obtain ⟨u, hu, _⟩ := hB3.nt z
          rw [hw0] at hu; cases hu
        · have cq : q = 0 := by omega
          rw [if_pos cq] at e1 e2
          subst e1 e2
          walk_at "re"
          exact key _ _ ⟨_, _, rfl, hB4, But.refl _ _, hv4, hw⟩
    · have ecs : B1.closeStep t' p q gr = (B1, t', gr) := by
        unfold Bk.closeStep
        rw [if_neg (fun z => cs (by omega))]
      rw [ecs] at J1 J2 hgo'
      walk_at "re"
      exact ⟨(B1, t', gr), _, _, _, _, _, _, by omega, rfl, J1, hB4, ⟨vs', hv4, hl4⟩, b4, f', by omega, hgo'⟩
  · have c : td = [] := List.length_eq_zero_iff.mp (by rw [← hl.len]; omega)
    have e := closeGo_nil f (B1, td, gr) c
    rw [← hgo, e] at k
    walk_at "rd"
    exact k _ hB1 b
end Shf

/-! rooms in memory: made, asked, moves put in -/
namespace Shf
open PySem L2
theorem BookAt.out {g : Gd} {H : Hp} {A : Ad} {B : Bk} (h : BookAt g H A B) {l : Addr} {o0 o : HO} (hl : H l = some o0) (nt : ∀ xs, o0 ≠ .tup xs) (n : l ∉ A.G) : BookAt g (upd H l o) A B := h.fr fun a u e cc => by
  rw [upd_ne]
  · exact e
  · rintro rfl
    rcases cc with cc | ⟨xs, rfl⟩
    · exact n cc
    · rw [hl] at e; exact nt xs (Option.some.inj e)
def sp_Book_init (K : PySem.W.Frag) (g : Gd) : Sp := fun vs H Q _ => ∃ (x dx : Addr) (n : Nat), vs = [.ref x, .int (n : Int)] ∧ 1 ≤ n ∧ n ≤ 16 ∧ H x = some (.ins g.Book dx []) ∧
  ∀ H' A, A.b = x → BookAt g H' A (Bk.new n) → But [x] H H' → (∀ a ∈ A.G, a ≠ x → H a = none) → Q .non H'
theorem len_Book_init (K : PySem.W.Frag) (g : Gd) (vs : List V) (H : Hp) (Q : VK) (E : XK) (h : sp_Book_init K g vs H Q E) : vs.length = 2 := by obtain ⟨_, _, _, rfl, _⟩ := h; rfl
--@facts Book.__init__ r_Book
abbrev N_Book_init : List Str := ["self", "size", "k"]
/-- Book.__init__ -/
def t_Book_init (K : PySem.W.Frag) (g : Gd) (E : XK) : TS :=
  (tSeq (sFld K (tVar 0) (tVar 1) "size")
    (tSeq (sFld K (tVar 0) (tLst (tCons (tTup (tCons (tC (.str "rest")) tNil)) tNil)) "steps")
    (tSeq (sFld K (tVar 0) (tLst (tCons (tCallS (sp_rest K g) (WE (wE E)) (tCons (tVar 1) tNil)) tNil)) "made")
    (tSeq (sFld K (tVar 0) (tLc (iRng1 (tCons (tVar 1) tNil)) (gName 2) tYes (tDisp (((tVar 2), (tC (.int 0))) :: [])) [2]) "rows")
    (sFld K (tVar 0) (tLst tNil) "kept")))))
theorem pure_Book_init {K : PySem.W.Frag} {g : Gd} (cB : BkC K g) (vs : List V) (H : Hp) (Q : VK) (E : XK) (h : sp_Book_init K g vs H Q E) : Rd1 (t_Book_init K g E) N_Book_init vs H Q := by
  obtain ⟨x, dx, n, rfl, h1, h2, hx, k⟩ := h
  have step : ∀ {fs : List (Str × V)} {H1 : Hp} {o : HO}, But [x] H H1 → H1 x = some (.ins g.Book dx fs) → But [x] H (upd H1 x o) := fun b e => b.up e (fun _ z => by cases z) (List.mem_singleton.mpr rfl)
  unfold t_Book_init
  walk_at "rd"
  refine ⟨x, _, dx, _, rfl, hx, cB.cl, cB.size, by show 0 < 1000; omega, ?_⟩
  have X1 : (upd H x (.ins g.Book dx [("size", .int (n : Int))])) x = some (.ins g.Book dx [("size", .int (n : Int))]) := upd_same
  have b1 : But [x] H (upd H x (.ins g.Book dx [("size", .int (n : Int))])) := step (But.refl _ _) hx
  show tSeq _ _ _ _ (upd H x (.ins g.Book dx [("size", .int (n : Int))]))
  generalize upd H x (.ins g.Book dx [("size", .int (n : Int))]) = H1 at X1 b1 ⊢
  -- steps
  walk_at "rd"
  refine ⟨zl (by show 1 ≤ 100000; omega), fun p1 hp1 => ?_⟩
  walk_at "rd"
  refine ⟨zl (by show 1 ≤ 100000; omega), fun ls hls => ?_⟩
  walk_at "rd"
  have b2 : But [x] H (upd (upd H1 p1 (.tup [.str "rest"])) ls (.lst [.ref p1])) := (b1.new hp1).new hls
  have X2 : (upd (upd H1 p1 (.tup [.str "rest"])) ls (.lst [.ref p1])) x = some (.ins g.Book dx [("size", .int (n : Int))]) := by
    have e1 := ne_of_none X1 hp1
    have : (upd H1 p1 (.tup [.str "rest"])) x = some (.ins g.Book dx [("size", .int (n : Int))]) := by rw [upd_ne e1]; exact X1
    rw [upd_ne (ne_of_none this hls)]; exact this
  have P2 : (upd (upd H1 p1 (.tup [.str "rest"])) ls (.lst [.ref p1])) p1 = some (.tup [.str "rest"]) := by rw [upd_ne (ne_of_none upd_same hls)]; exact upd_same
  have L2' : (upd (upd H1 p1 (.tup [.str "rest"])) ls (.lst [.ref p1])) ls = some (.lst [.ref p1]) := upd_same
  have f1 : H ls = none := (b1.new hp1).f _ hls
  generalize upd (upd H1 p1 (.tup [.str "rest"])) ls (.lst [.ref p1]) = H2 at *
  clear hls hp1 X1 b1
  refine ⟨x, _, dx, _, rfl, X2, cB.cl, cB.steps, by show 1 < 1000; omega, ?_⟩
  have b3 : But [x] H (upd H2 x (.ins g.Book dx [("size", .int (n : Int)), ("steps", .ref ls)])) := step b2 X2
  have X3 : (upd H2 x (.ins g.Book dx [("size", .int (n : Int)), ("steps", .ref ls)])) x = some (.ins g.Book dx [("size", .int (n : Int)), ("steps", .ref ls)]) := upd_same
  have P3 : (upd H2 x (.ins g.Book dx [("size", .int (n : Int)), ("steps", .ref ls)])) p1 = some (.tup [.str "rest"]) := by rw [upd_ne (ne_of P2 X2 fun z => by cases z)]; exact P2
  have L3 : (upd H2 x (.ins g.Book dx [("size", .int (n : Int)), ("steps", .ref ls)])) ls = some (.lst [.ref p1]) := by rw [upd_ne (ne_of L2' X2 fun z => by cases z)]; exact L2'
  show tSeq _ _ _ _ (upd H2 x (.ins g.Book dx [("size", .int (n : Int)), ("steps", .ref ls)]))
  generalize upd H2 x (.ins g.Book dx [("size", .int (n : Int)), ("steps", .ref ls)]) = H3 at *
  clear b2 X2 P2 L2'
  -- made
  walk_at "rd"
  refine ⟨_, rfl, fun _ m0 H4 s4 hm hm0 => ?_, fun c => absurd (by omega) c⟩
  rw [show ((n : Int)).toNat = n from Int.toNat_natCast n] at hm0
  walk_at "rd"
  refine ⟨zl (by show 1 ≤ 100000; omega), fun lm hlm => ?_⟩
  have s5 : Same H3 (upd H4 lm (.lst [.ref m0])) := s4.new hlm
  have b5 : But [x] H (upd H4 lm (.lst [.ref m0])) := b3.trans (.of s5)
  have f2 : H lm = none := (b3.trans (.of s4)).f _ hlm
  have n1 : lm ≠ ls := (ne_of_none (s4 _ _ L3) hlm).symm
  have X5 := s5 _ _ X3
  have P5 := s5 _ _ P3
  have L5 := s5 _ _ L3
  have M5 : (upd H4 lm (.lst [.ref m0])) lm = some (.lst [.ref m0]) := upd_same
  have N5 : (upd H4 lm (.lst [.ref m0])) m0 = some (.tup (vN (List.range n))) := by rw [upd_ne (ne_of_none hm0 hlm)]; exact hm0
  generalize upd H4 lm (.lst [.ref m0]) = H5 at *
  clear hlm hm0 hm s4 s5 X3 P3 L3 b3
  walk_at "rd"
  refine ⟨x, _, dx, _, rfl, X5, cB.cl, cB.made, by show 2 < 1000; omega, ?_⟩
  have b6 : But [x] H (upd H5 x (.ins g.Book dx [("size", .int (n : Int)), ("steps", .ref ls), ("made", .ref lm)])) := step b5 X5
  have X6 : (upd H5 x (.ins g.Book dx [("size", .int (n : Int)), ("steps", .ref ls), ("made", .ref lm)])) x = some (.ins g.Book dx [("size", .int (n : Int)), ("steps", .ref ls), ("made", .ref lm)]) := upd_same
  have g5 : ∀ {a : Addr} {o : HO}, H5 a = some o → (∀ C dx fs, o ≠ .ins C dx fs) → (upd H5 x (.ins g.Book dx [("size", .int (n : Int)), ("steps", .ref ls), ("made", .ref lm)])) a = some o := fun e q => by
    rw [upd_ne (ne_of e X5 fun z => q _ _ _ z)]; exact e
  have P6 := g5 P5 fun _ _ _ z => by cases z
  have L6 := g5 L5 fun _ _ _ z => by cases z
  have M6 := g5 M5 fun _ _ _ z => by cases z
  have N6 := g5 N5 fun _ _ _ z => by cases z
  show tSeq _ _ _ _ (upd H5 x (.ins g.Book dx [("size", .int (n : Int)), ("steps", .ref ls), ("made", .ref lm)]))
  generalize upd H5 x (.ins g.Book dx [("size", .int (n : Int)), ("steps", .ref ls), ("made", .ref lm)]) = H6 at *
  clear g5 P5 L5 M5 N5 X5 b5
  -- rows
  walk_at "rd"
  refine ⟨_, rfl, _, rfl, by omega, by omega, fun lr hlr => lc_range (lo := 0) (n := n) (fun i H' => ∃ ds : List Addr, ds.length = i ∧ Same H6 H' ∧ H' lr = some (.lst (ds.map V.ref)) ∧ (∀ k d, ds[k]? = some d → H' d = some (.dK (rowV [(k, 0)])) ∧ H6 d = none ∧ d ≠ lr) ∧ ds.Nodup) ?_ ?_ ?_⟩
  · exact ⟨[], rfl, (Same.refl H6).new hlr, upd_same, fun k d e => (by simp at e), List.nodup_nil⟩
  · rintro i H' hi ⟨ds, hl, s, hD, hds, nd⟩
    refine ⟨rfl, ?_⟩
    rw [Int.zero_add]
    walk_at "re"
    show tDisp _ _ _ _
    intro p hp
    refine ⟨_, rfl, ?_⟩
    refine ⟨upd_same, [((Sum.inl (i : Int) : Key), V.int 0)], rfl, by show 1 ≤ 15; omega, ?_⟩
    have e1 : upd (upd H' p (.dK [])) p (.dK (mergeK [] [((Sum.inl (i : Int) : Key), V.int 0)])) = upd H' p (.dK (rowV [(i, 0)])) := by
      funext z
      unfold upd
      by_cases c : z = p
      · rw [if_pos c, if_pos c] <;> rfl
      · rw [if_neg c, if_neg c, if_neg c]
    rw [e1]
    have npl : p ≠ lr := (ne_of_none hD hp).symm
    refine ⟨_, by rw [upd_ne npl.symm]; exact hD, by rw [List.length_map, hl]; exact zlt (by omega), ds ++ [p], by rw [List.length_append, hl] <;> rfl, (s.new hp).up hlr, ?_, fun k d e => ?_, ?_⟩
    · rw [upd_same, List.map_append] <;> rfl
    · have hpn : H6 p = none := s.free hp
      by_cases c : k < ds.length
      · rw [List.getElem?_append_left c] at e
        obtain ⟨q1, q2, q3⟩ := hds k d e
        refine ⟨?_, q2, q3⟩
        rw [upd_ne q3, upd_ne (ne_of_none q1 hp)]
        exact q1
      · have hlt := (List.getElem?_eq_some_iff.mp e).1
        rw [List.length_append] at hlt
        have hlt : k < ds.length + 1 := hlt
        have ek : k = ds.length := by omega
        subst ek
        rw [List.getElem?_append_right (Nat.le_refl _), Nat.sub_self] at e
        have : p = d := Option.some.inj e
        subst this
        refine ⟨?_, hpn, npl⟩
        rw [upd_ne npl, upd_same, hl]
    · refine List.nodup_append.mpr ⟨nd, by simp, fun a ha c hc e => ?_⟩
      rw [List.mem_singleton.mp hc] at e
      subst e
      obtain ⟨k, hk, ek⟩ := List.getElem_of_mem ha
      have := (hds k a (by rw [List.getElem?_eq_getElem hk, ek])).1
      rw [hp] at this
      cases this
  rintro H7 ⟨ds, hl, s7, hR, hds, nd⟩
  have X7 := s7 _ _ X6
  have P7 := s7 _ _ P6
  have L7 := s7 _ _ L6
  have M7 := s7 _ _ M6
  have N7 := s7 _ _ N6
  have b7 := b6.trans (.of s7)
  have f3 : H lr = none := b6.f _ hlr
  have f4 : ∀ d ∈ ds, H d = none := fun d hd => by
    obtain ⟨k, hk, ek⟩ := List.getElem_of_mem hd
    exact b6.f _ (hds k d (by rw [List.getElem?_eq_getElem hk, ek])).2.1
  have n2 : lr ≠ ls := (ne_of_none L6 hlr).symm
  have n3 : lr ≠ lm := (ne_of_none M6 hlr).symm
  have hds : ∀ k d, ds[k]? = some d → H7 d = some (.dK (rowV [(k, 0)])) := fun k d e => (hds k d e).1
  clear X6 P6 L6 M6 N6 b6 s7 hlr
  walk_at "rd"
  refine ⟨x, _, dx, _, rfl, X7, cB.cl, cB.rows, by show 3 < 1000; omega, ?_⟩
  have b8 : But [x] H (upd H7 x (.ins g.Book dx [("size", .int (n : Int)), ("steps", .ref ls), ("made", .ref lm), ("rows", .ref lr)])) := step b7 X7
  have X8 : (upd H7 x (.ins g.Book dx [("size", .int (n : Int)), ("steps", .ref ls), ("made", .ref lm), ("rows", .ref lr)])) x = some (.ins g.Book dx [("size", .int (n : Int)), ("steps", .ref ls), ("made", .ref lm), ("rows", .ref lr)]) := upd_same
  have g7 : ∀ {a : Addr} {o : HO}, H7 a = some o → (∀ C dx fs, o ≠ .ins C dx fs) → (upd H7 x (.ins g.Book dx [("size", .int (n : Int)), ("steps", .ref ls), ("made", .ref lm), ("rows", .ref lr)])) a = some o := fun e q => by
    rw [upd_ne (ne_of e X7 fun z => q _ _ _ z)]; exact e
  have P8 := g7 P7 fun _ _ _ z => by cases z
  have L8 := g7 L7 fun _ _ _ z => by cases z
  have M8 := g7 M7 fun _ _ _ z => by cases z
  have N8 := g7 N7 fun _ _ _ z => by cases z
  have R8 := g7 hR fun _ _ _ z => by cases z
  have D8 : ∀ k d, ds[k]? = some d → _ := fun k d e => g7 (hds k d e) fun _ _ _ z => by cases z
  show sFld K (tVar 0) (tLst tNil) "kept" { nx := fun x H' => Q V.non H', rt := Q } (L2.start N_Book_init [V.ref x, V.int (n : Int)]) (upd H7 x (.ins g.Book dx [("size", .int (n : Int)), ("steps", .ref ls), ("made", .ref lm), ("rows", .ref lr)]))
  generalize upd H7 x (.ins g.Book dx [("size", .int (n : Int)), ("steps", .ref ls), ("made", .ref lm), ("rows", .ref lr)]) = H8 at *
  clear g7 P7 L7 M7 N7 X7 b7 hR hds
  -- kept
  walk_at "rd"
  refine ⟨zl (Nat.zero_le _), fun lk hlk => ?_⟩
  have s9 : Same H8 (upd H8 lk (.lst [])) := (Same.refl H8).new hlk
  have b9 : But [x] H (upd H8 lk (.lst [])) := b8.new hlk
  have f5 : H lk = none := b8.f _ hlk
  have n4 : lk ≠ ls := (ne_of_none L8 hlk).symm
  have n5 : lk ≠ lm := (ne_of_none M8 hlk).symm
  have n6 : lk ≠ lr := (ne_of_none R8 hlk).symm
  have X9 := s9 _ _ X8
  have P9 := s9 _ _ P8
  have L9 := s9 _ _ L8
  have M9 := s9 _ _ M8
  have N9 := s9 _ _ N8
  have R9 := s9 _ _ R8
  have D9 := fun k d e => s9 _ _ (D8 k d e)
  have K9 : (upd H8 lk (.lst [])) lk = some (.lst []) := upd_same
  generalize upd H8 lk (.lst []) = H9 at *
  clear hlk P8 L8 M8 N8 R8 D8 b8 s9 X8
  walk_at "rd"
  refine ⟨x, _, dx, _, rfl, X9, cB.cl, cB.kept, by show 4 < 1000; omega, ?_⟩
  have g9 : ∀ {a : Addr} {o : HO}, H9 a = some o → (∀ C dx fs, o ≠ .ins C dx fs) → (upd H9 x (.ins g.Book dx (bkF ⟨x, ls, lm, lr, lk, ds⟩ n))) a = some o := fun e q => by
    rw [upd_ne (ne_of e X9 fun z => q _ _ _ z)]; exact e
  refine k _ ⟨x, ls, lm, lr, lk, ds⟩ rfl ⟨⟨dx, upd_same⟩, ⟨_, g9 L9 (fun _ _ _ z => (by cases z)), .cons (g9 P9 (fun _ _ _ z => (by cases z))) .nil⟩, ⟨_, g9 M9 (fun _ _ _ z => (by cases z)), .cons (g9 N9 (fun _ _ _ z => (by cases z))) .nil⟩, g9 R9 (fun _ _ _ z => (by cases z)), hl, fun i d e => ?_, g9 K9 (fun _ _ _ z => (by cases z)), ?_, nd⟩ (step b9 X9) fun a ha hne => ?_
  · have hi : i < n := by
      have := (List.getElem?_eq_some_iff.mp e).1
      rw [← hl]; exact this
    have e2 : (Bk.new n).row i = [(i, 0)] := by
      unfold Bk.row Bk.new
      rw [List.getD_eq_getElem?_getD, List.getElem?_map, List.getElem?_range hi] <;> rfl
    rw [e2]
    exact g9 (D9 i d e) fun _ _ _ z => by cases z
  · show [ls, lm, lr, lk].Nodup
    simp only [List.nodup_cons, List.mem_cons, List.not_mem_nil, or_false, not_or, List.nodup_nil, and_true, not_false_eq_true]
    exact ⟨⟨n1.symm, n2.symm, n4.symm⟩, ⟨n3.symm, n5.symm⟩, n6.symm⟩
  · unfold Ad.G at ha
    simp only [List.mem_cons] at ha
    rcases ha with rfl | rfl | rfl | rfl | rfl | ha
    · exact absurd rfl hne
    · exact f1
    · exact f2
    · exact f3
    · exact f5
    · exact f4 a ha
end Shf

/-! rooms -/
namespace Shf
open PySem L2
structure RA where
  r : Addr
  l : Addr
  A : Ad
def RA.F (R : RA) : List Addr := R.l :: R.A.F
def RA.G (R : RA) : List Addr := R.r :: R.l :: R.A.G
theorem RA.fg (R : RA) : ∀ a ∈ R.F, a ∈ R.G := fun a h => by
  rcases List.mem_cons.mp h with h | h
  · exact List.mem_cons_of_mem _ (by rw [h]; exact List.mem_cons_self)
  · exact List.mem_cons_of_mem _ (List.mem_cons_of_mem _ (R.A.fg a h))
def rmF (R : RA) (n : Nat) : List (Str × V) := [("size", .int (n : Int)), ("told", .ref R.l), ("book", .ref R.A.b)]
structure RoomAt (g : Gd) (H : Hp) (R : RA) (B : Bk) (moves : List (List Nat)) : Prop where
  ob : ∃ dx, H R.r = some (.ins g.Room dx (rmF R B.n))
  tl : ∃ vs, H R.l = some (.lst vs) ∧ LT H vs moves
  bk : BookAt g H R.A B
  nl : R.l ∉ R.A.G
  cl : Closed B moves
  mp : ∀ m ∈ moves, IsP B.n m
section
variable {g : Gd} {H H' : Hp} {R : RA} {B : Bk} {K : PySem.W.Frag} {Q : VK} {moves : List (List Nat)}
theorem RoomAt.fr (h : RoomAt g H R B moves) (e : ∀ a u, H a = some u → a ∈ R.G ∨ (∃ xs, u = .tup xs) → H' a = some u) : RoomAt g H' R B moves := by
  obtain ⟨⟨dx, ob⟩, ⟨vs, tl, lt⟩, bk, nl, cl, mp⟩ := h
  have tu : Tu H H' := fun p xs hp => e p _ hp (.inr ⟨xs, rfl⟩)
  refine ⟨⟨dx, e _ _ ob (.inl List.mem_cons_self)⟩, ⟨vs, e _ _ tl (.inl (List.mem_cons_of_mem _ List.mem_cons_self)), lt.tu tu⟩, bk.fr fun a u ha c => e a u ha (c.imp (fun z => List.mem_cons_of_mem _ (List.mem_cons_of_mem _ z)) id), nl, cl, mp⟩
theorem RoomAt.same (h : RoomAt g H R B moves) (s : Same H H') : RoomAt g H' R B moves := h.fr fun a u e _ => s a u e
theorem RoomAt.but {F : List Addr} (h : RoomAt g H R B moves) (b : But F H H') (d : ∀ a ∈ R.G, a ∉ F) : RoomAt g H' R B moves := h.fr fun a u e c => by
  rcases c with c | ⟨xs, rfl⟩
  · exact b.s a u e (d a c)
  · exact b.t a xs e
theorem RoomAt.out (h : RoomAt g H R B moves) {l : Addr} {o0 o : HO} (hl : H l = some o0) (nt : ∀ xs, o0 ≠ .tup xs) (n : l ∉ R.G) : RoomAt g (upd H l o) R B moves := h.fr fun a u e cc => by
  rw [upd_ne]
  · exact e
  · rintro rfl
    rcases cc with cc | ⟨xs, rfl⟩
    · exact n cc
    · rw [hl] at e; exact nt xs (Option.some.inj e)
theorem RoomAt.full (h : RoomAt g H R B moves) {a : Addr} (ha : a ∈ R.G) : ∃ u, H a = some u := by
  rcases List.mem_cons.mp ha with rfl | ha
  · obtain ⟨dx, ob⟩ := h.ob; exact ⟨_, ob⟩
  rcases List.mem_cons.mp ha with rfl | ha
  · obtain ⟨vs, tl, _⟩ := h.tl; exact ⟨_, tl⟩
  · exact h.bk.full ha
theorem RoomAt.nin (h : RoomAt g H R B moves) {a : Addr} (ha : H a = none) : a ∉ R.G := fun z => by
  obtain ⟨u, hu⟩ := h.full z
  rw [ha] at hu; cases hu
theorem RoomAt.n1 (h : RoomAt g H R B moves) : 1 ≤ B.n := h.cl.ok.h1
theorem RoomAt.n16 (h : RoomAt g H R B moves) : B.n ≤ 16 := h.cl.ok.h2
theorem RoomAt.f_size (h : RoomAt g H R B moves) (c : RmC K g) (q : Q (.int (B.n : Int)) H) : rFld K "size" (.ref R.r) H Q := by
  obtain ⟨dx, e⟩ := h.ob
  exact ⟨_, _, dx, _, _, rfl, e, c.cl, c.size, rfl, q⟩
theorem RoomAt.f_told (h : RoomAt g H R B moves) (c : RmC K g) (q : Q (.ref R.l) H) : rFld K "told" (.ref R.r) H Q := by
  obtain ⟨dx, e⟩ := h.ob
  exact ⟨_, _, dx, _, _, rfl, e, c.cl, c.told, rfl, q⟩
theorem RoomAt.f_book (h : RoomAt g H R B moves) (c : RmC K g) (q : Q (.ref R.A.b) H) : rFld K "book" (.ref R.r) H Q := by
  obtain ⟨dx, e⟩ := h.ob
  exact ⟨_, _, dx, _, _, rfl, e, c.cl, c.book, rfl, q⟩
theorem RoomAt.inst (h : RoomAt g H R B moves) {m : Str} {P : Prop} (hm : (rmF R B.n).lookup m = none) (q : P) : ∃ a dx fs, V.ref R.r = .ref a ∧ H a = some (.ins g.Room dx fs) ∧ fs.lookup m = none ∧ P := by
  obtain ⟨dx, e⟩ := h.ob
  exact ⟨_, dx, _, rfl, e, hm, q⟩
end
def sp_Room_init (K : PySem.W.Frag) (g : Gd) : Sp := fun vs H Q E => ∃ (x dx : Addr) (n : Int), vs = [.ref x, .int n] ∧ H x = some (.ins g.Room dx []) ∧ (¬ (1 ≤ n ∧ n ≤ 16) → E (.ref g.NoSize) none H) ∧
  ∀ m : Nat, n = (m : Int) → 1 ≤ m → m ≤ 16 → ∀ H' R, R.r = x → RoomAt g H' R (Bk.new m) [] → But [x] H H' → (∀ a ∈ R.G, a ≠ x → H a = none) → Q .non H'
theorem len_Room_init (K : PySem.W.Frag) (g : Gd) (vs : List V) (H : Hp) (Q : VK) (E : XK) (h : sp_Room_init K g vs H Q E) : vs.length = 2 := by obtain ⟨_, _, _, rfl, _⟩ := h; rfl
--@facts Room.__init__ r_Room
abbrev N_Room_init : List Str := ["self", "size"]
/-- Room.__init__ -/
def t_Room_init (K : PySem.W.Frag) (g : Gd) (E : XK) : TS :=
  (tSeq (tDrop (tCallS (sp_ask_size K g) (WE (wE E)) (tCons (tVar 1) tNil)))
    (tSeq (sFld K (tVar 0) (tVar 1) "size")
    (tSeq (sFld K (tVar 0) (tLst tNil) "told")
    (sFld K (tVar 0) (tMakeS g.Book (sp_Book_init K g) (fun _ => E0) (tCons (tVar 1) tNil)) "book"))))
theorem pure_Room_init {K : PySem.W.Frag} {g : Gd} (cR : RmC K g) (vs : List V) (H : Hp) (Q : VK) (E : XK) (h : sp_Room_init K g vs H Q E) : Rd1 (t_Room_init K g E) N_Room_init vs H Q := by
  obtain ⟨x, dx, n, rfl, hx, en, k⟩ := h
  unfold t_Room_init
  walk_at "rd"
  refine ⟨n, rfl, fun hn => ?_, fun c => en c⟩
  obtain ⟨m, rfl⟩ : ∃ m : Nat, n = (m : Int) := ⟨n.toNat, by omega⟩
  have k := k m rfl (by omega) (by omega)
  walk_at "rd"
  refine ⟨x, _, dx, _, rfl, hx, cR.cl, cR.size, by show 0 < 1000; omega, ?_⟩
  have X1 : (upd H x (.ins g.Room dx [("size", .int (m : Int))])) x = some (.ins g.Room dx [("size", .int (m : Int))]) := upd_same
  have b1 : But [x] H (upd H x (.ins g.Room dx [("size", .int (m : Int))])) := (But.refl _ _).up hx (fun _ z => by cases z) (List.mem_singleton.mpr rfl)
  show tSeq _ _ _ _ (upd H x (.ins g.Room dx [("size", .int (m : Int))]))
  generalize upd H x (.ins g.Room dx [("size", .int (m : Int))]) = H1 at *
  walk_at "rd"
  refine ⟨zl (Nat.zero_le _), fun l hl => ?_⟩
  have f1 : H l = none := b1.f _ hl
  have s2 : Same H1 (upd H1 l (.lst [])) := (Same.refl H1).new hl
  have X2 := s2 _ _ X1
  have L2' : (upd H1 l (.lst [])) l = some (.lst []) := upd_same
  have b2 := b1.trans (.of s2)
  generalize upd H1 l (.lst []) = H2 at *
  walk_at "rd"
  refine ⟨x, _, dx, _, rfl, X2, cR.cl, cR.told, by show 1 < 1000; omega, ?_⟩
  have X3 : (upd H2 x (.ins g.Room dx [("size", .int (m : Int)), ("told", .ref l)])) x = some (.ins g.Room dx [("size", .int (m : Int)), ("told", .ref l)]) := upd_same
  have b3 : But [x] H (upd H2 x (.ins g.Room dx [("size", .int (m : Int)), ("told", .ref l)])) := b2.up X2 (fun _ z => by cases z) (List.mem_singleton.mpr rfl)
  have L3 : (upd H2 x (.ins g.Room dx [("size", .int (m : Int)), ("told", .ref l)])) l = some (.lst []) := by rw [upd_ne (ne_of L2' X2 fun z => by cases z)]; exact L2'
  show sFld K (tVar 0) (tMakeS g.Book (sp_Book_init K g) (fun _ => E0) (tCons (tVar 1) tNil)) "book" { nx := fun x H' => Q V.non H', rt := Q } (L2.start N_Room_init [V.ref x, V.int (m : Int)]) (upd H2 x (.ins g.Room dx [("size", .int (m : Int)), ("told", .ref l)]))
  generalize upd H2 x (.ins g.Room dx [("size", .int (m : Int)), ("told", .ref l)]) = H3 at *
  walk_at "rd"
  intro b db hb hdb hne
  have s4 : Same H3 (upd (upd H3 db (.own b)) b (.ins g.Book db [])) := ((Same.refl H3).new hdb).up hb
  refine ⟨b, db, m, rfl, by omega, by omega, upd_same, fun H' A eA hB b5 fr => ⟨rfl, ?_⟩⟩
  have s5 : Same H3 H' := fun a u e => b5.s a u (s4 _ _ e) fun z => by
    rw [List.mem_singleton.mp z] at e
    rw [hb] at e; cases e
  have X5 := s5 _ _ X3
  have L5 := s5 _ _ L3
  have frA : ∀ a ∈ A.G, H3 a = none := fun a ha => by
    by_cases c : a = b
    · rw [c]; exact hb
    · exact s4.free (fr a ha c)
  walk_at "rd"
  refine ⟨x, _, dx, _, rfl, X5, cR.cl, cR.book, by show 2 < 1000; omega, ?_⟩
  have b6 : But [x] H (upd H' x (.ins g.Room dx (rmF ⟨x, l, A⟩ m))) := (b3.trans (.of s5)).up X5 (fun _ z => by cases z) (List.mem_singleton.mpr rfl)
  have e6 : (upd H' x (.ins g.Room dx (putF "book" (.ref b) [("size", .int (m : Int)), ("told", .ref l)]))) = upd H' x (.ins g.Room dx (rmF ⟨x, l, A⟩ m)) := by rw [← eA] <;> rfl
  show Q .non (upd H' x (.ins g.Room dx (putF "book" (.ref b) [("size", .int (m : Int)), ("told", .ref l)])))
  rw [e6]
  have xn : x ∉ A.G := fun z => by
    have := frA x z
    rw [X3] at this; cases this
  refine k _ ⟨x, l, A⟩ rfl ⟨⟨dx, upd_same⟩, ⟨[], ?_, .nil⟩, hB.out X5 (fun _ z => by cases z) xn, fun z => ?_, new_closed (by omega) (by omega), fun m hm => (List.not_mem_nil hm).elim⟩ b6 fun a ha hne => ?_
  · rw [upd_ne (ne_of L5 X5 fun z => by cases z)]; exact L5
  · have := frA l z
    rw [L3] at this; cases this
  · rcases List.mem_cons.mp ha with ha | ha
    · exact absurd ha hne
    rcases List.mem_cons.mp ha with ha | ha
    · rw [ha]; exact f1
    · exact b3.f _ (frA a ha)
/-- Room(n), of a size that there is -/
theorem make_room {K : PySem.W.Frag} {g : Gd} {H : Hp} {Q : VK} {E : XK} {n : Nat} (h1 : 1 ≤ n) (h2 : n ≤ 16) (k : ∀ R H', Same H H' → RoomAt g H' R (Bk.new n) [] → (∀ a ∈ R.G, H a = none) → Q (.ref R.r) H') :
    rMake g.Room (sp_Room_init K g) E [.int (n : Int)] H Q := fun x dx hx hdx hne => by
  have s : Same H (upd (upd H dx (.own x)) x (.ins g.Room dx [])) := ((Same.refl H).new hdx).up hx
  refine ⟨x, dx, n, rfl, upd_same, fun c => absurd (by omega) c, fun m em _ _ H' R eR hR b fr => ⟨rfl, ?_⟩⟩
  obtain rfl : n = m := by omega
  have s2 : Same H H' := fun a u e => b.s a u (s _ _ e) fun z => by
    rw [List.mem_singleton.mp z] at e
    rw [hx] at e; cases e
  have := k R H' s2 hR fun a ha => by
    by_cases c : a = x
    · rw [c]; exact hx
    · exact s.free (fr a ha c)
  rw [eR] at this
  exact this
def sp_Room_ask (K : PySem.W.Frag) (g : Gd) : Sp := fun vs H Q E => ∃ (R : RA) (B : Bk) (moves : List (List Nat)) (q : Addr) (a : List Int), vs = [.ref R.r, .ref q] ∧ RoomAt g H R B moves ∧ SqT K H q (vI a) ∧ a.length ≤ 1000 ∧
  (SeatB a = false → E (.ref g.NoSeating) none H) ∧ (SeatB a = true → a.length ≠ B.n → E (.ref g.OtherSize) none H) ∧ (SeatB a = true → a.length = B.n → Q .non H)
theorem len_Room_ask (K : PySem.W.Frag) (g : Gd) (vs : List V) (H : Hp) (Q : VK) (E : XK) (h : sp_Room_ask K g vs H Q E) : vs.length = 2 := by obtain ⟨_, _, _, _, _, rfl, _⟩ := h; rfl
--@facts Room.ask r_Room
abbrev N_Room_ask : List Str := ["self", "a"]
/-- Room.ask -/
def t_Room_ask (K : PySem.W.Frag) (g : Gd) (E : XK) : TS :=
  (tSeq (tDrop (tCallS (sp_ask_seating K g) (WE (wE E)) (tCons (tVar 1) tNil)))
    (tIfS (tTest (tOp rNe (tCB (rLenQ K) (tCons (tVar 1) tNil)) (tFld K (tVar 0) "size"))) (tRaiseW (wE E) g.OtherSize) tNext))
theorem pure_Room_ask {K : PySem.W.Frag} {g : Gd} (cR : RmC K g) (vs : List V) (H : Hp) (Q : VK) (E : XK) (h : sp_Room_ask K g vs H Q E) : Rd1 (t_Room_ask K g E) N_Room_ask vs H Q := by
  obtain ⟨R, B, moves, q, a, rfl, hR, hq, hl, e1, e2, k⟩ := h
  unfold t_Room_ask
  walk_at "rd"
  refine ⟨q, a, rfl, hq, hl, fun ca => ?_, fun c => e1 c⟩
  walk_at "rd"
  refine len_TI hq ?_
  walk_at "rd"
  refine hR.f_size cR ?_
  walk_at "rd"
  refine if_nd (fun c => ?_) (fun c => ?_)
  · exact e2 ca (by omega)
  · exact k ca (by omega)
/-- asked with a seating of the size -/
theorem ask_ok {K : PySem.W.Frag} {g : Gd} {H : Hp} {Q : VK} {E : XK} {R : RA} {B : Bk} {moves : List (List Nat)} {q : Addr} {a : List Nat} (hR : RoomAt g H R B moves) (hq : SqT K H q (vN a)) (pa : IsP B.n a) (k : Q .non H) : sp_Room_ask K g [.ref R.r, .ref q] H Q E := by
  have h := hR.n16
  have hl : (a.map fun (x : Nat) => (x : Int)).length = B.n := by rw [List.length_map, pa.len]
  have ho := seatB_N pa hR.n1 hR.n16
  exact ⟨R, B, moves, q, _, rfl, hR, by rw [← vN_eq]; exact hq, by omega, fun c => (by rw [ho] at c; cases c), fun _ c => absurd hl c, fun _ _ => k⟩
def sp_Room_put_move (K : PySem.W.Frag) (g : Gd) : Sp := fun vs H Q E => ∃ (R : RA) (B : Bk) (moves : List (List Nat)) (q : Addr) (a : List Int), vs = [.ref R.r, .ref q] ∧ RoomAt g H R B moves ∧ H q = some (.tup (vI a)) ∧ a.length ≤ 1000 ∧ moves.length ≤ 200 ∧
  (SeatB a = false → E (.ref g.NoSeating) none H) ∧ (SeatB a = true → a.length ≠ B.n → E (.ref g.OtherSize) none H) ∧ (SeatB a = true → a.length = B.n → moves.length = 200 → E (.ref g.TooMany) none H) ∧
  ∀ m, a = m.map (fun (x : Nat) => (x : Int)) → IsP B.n m → moves.length < 200 → ∀ H' B', RoomAt g H' R B' (moves ++ [m]) → But R.F H H' → B'.n = B.n → Ext B B' → Q (.bl (decide (B.kept.length < B'.kept.length))) H'
theorem len_Room_put_move (K : PySem.W.Frag) (g : Gd) (vs : List V) (H : Hp) (Q : VK) (E : XK) (h : sp_Room_put_move K g vs H Q E) : vs.length = 2 := by obtain ⟨_, _, _, _, _, rfl, _⟩ := h; rfl
--@facts Room.put_move r_Room
abbrev N_Room_put_move : List Str := ["self", "move", "at"]
/-- Room.put_move -/
def t_Room_put_move (K : PySem.W.Frag) (g : Gd) (E : XK) : TS :=
  (tSeq (tDrop (tMethS g.Room "ask" (sp_Room_ask K g) (WE (wE E)) (tVar 0) (tCons (tVar 1) tNil)))
    (tSeq (tIfS (tTest (tOp rEq (tCB (rLenQ K) (tCons (tFld K (tVar 0) "told") tNil)) (tC (.int 200)))) (tRaiseW (wE E) g.TooMany) tNext)
    (tSeq (tAsg (tMethS g.Book "note" (sp_Book_note K g) (fun _ => E0) (tFld K (tVar 0) "book") (tCons (tTup (tCons (tC (.str "move")) (tCons (tCB (rLenQ K) (tCons (tFld K (tVar 0) "told") tNil)) tNil))) (tCons (tVar 1) tNil))) (gName 2))
    (tSeq (tDrop (tBM K "list" rAppend (tFld K (tVar 0) "told") (tCons (tVar 1) tNil)))
    (tRet (tMethS g.Book "close" (sp_Book_close K g) (fun _ => E0) (tFld K (tVar 0) "book") (tCons (tVar 2) tNil)))))))
theorem pure_Room_put_move {K : PySem.W.Frag} {g : Gd} (cR : RmC K g) (vs : List V) (H : Hp) (Q : VK) (E : XK) (h : sp_Room_put_move K g vs H Q E) : Rd1 (t_Room_put_move K g E) N_Room_put_move vs H Q := by
  obtain ⟨R, B, moves, q, a, rfl, hR, hq, hl, hml, e1, e2, e3, k⟩ := h
  obtain ⟨vs, hv, hvl⟩ := hR.tl
  unfold t_Room_put_move
  walk_at "rd"
  refine hR.inst (by rfl) ?_
  walk_at "rd"
  refine ⟨R, B, moves, q, a, rfl, hR, sqT hq, hl, fun c => e1 c, fun c1 c2 => e2 c1 c2, fun ca cl => ?_⟩
  walk_at "rd"
  refine hR.f_told cR ?_
  walk_at "rd"
  refine len_L (sqL hv) ?_
  rw [hvl.len]
  walk_at "rd"
  refine if_d (fun c => ?_) (fun c => ?_)
  · exact e3 ca cl (by omega)
  obtain ⟨m, pm, em, _, _⟩ := seatB_is ca
  rw [cl] at pm
  have k := k m em pm (by omega)
  rw [em, ← vN_eq] at hq
  walk_at "rd"
  refine hR.f_book cR ?_
  refine hR.bk.inst (by rfl) ?_
  walk_at "rd"
  refine hR.f_told cR ?_
  walk_at "rd"
  refine len_L (sqL hv) ?_
  rw [hvl.len]
  walk_at "rd"
  refine ⟨zl (by show 2 ≤ 100000; omega), fun p hp => ?_⟩
  have s1 : Same H (upd H p (.tup [.str "move", .int (moves.length : Int)])) := (Same.refl H).new hp
  have stb := hR.cl.ok.stb
  have oklen := hR.cl.ok.len
  have h16 := hR.n16
  have kl := kept_le hR.cl.ok.pre
  have kl2 : B.kept.length * (2 * B.n) ≤ 120 * (2 * 16) := Nat.mul_le_mul kl (by omega)
  walk_at "rd"
  refine ⟨R.A, B, .move moves.length, m, p, q, rfl, hR.bk.same s1, upd_same, s1 _ _ hq, by omega, by omega, fun H2 hB2 b2 => ?_⟩
  have b02 := (But.of (F := R.A.F) s1).trans b2
  have hlF : R.l ∉ R.A.F := fun z => hR.nl (R.A.fg _ z)
  have hv2 := b02.s _ _ hv hlF
  obtain ⟨dx, ob⟩ := hR.ob
  have ob2 : H2 R.r = some (.ins g.Room dx (rmF R B.n)) := b02.s _ _ ob fun z => by
    obtain ⟨o, h1, _, h2⟩ := hR.bk.nt z
    rw [ob] at h1; exact h2 _ _ _ (Option.some.inj h1).symm
  walk_at "rd"
  refine ⟨_, _, dx, _, _, rfl, ob2, cR.cl, cR.told, rfl, isL (sqL hv2), ?_⟩
  walk_at "rd"
  refine app_V hv2 (by rw [hvl.len]; omega) ?_
  have tu3 : Tu H2 (upd H2 R.l (.lst (vs ++ [.ref q]))) := fun a xs e => by rw [upd_ne (ne_of e hv2 fun z => by cases z)]; exact e
  have hB3 := hB2.out (o := .lst (vs ++ [.ref q])) hv2 (fun _ z => by cases z) hR.nl
  have ob3 : (upd H2 R.l (.lst (vs ++ [.ref q]))) R.r = some (.ins g.Room dx (rmF R B.n)) := by rw [upd_ne (ne_of ob2 hv2 fun z => by cases z)]; exact ob2
  have hv3 : (upd H2 R.l (.lst (vs ++ [.ref q]))) R.l = some (.lst (vs ++ [.ref q])) := upd_same
  have lt3 : LT (upd H2 R.l (.lst (vs ++ [.ref q]))) (vs ++ [.ref q]) (moves ++ [m]) := ((hvl.tu b02.t).tu tu3).snoc (tu3 _ _ (b02.t _ _ hq))
  have b3 : But R.F H (upd H2 R.l (.lst (vs ++ [.ref q]))) := (b02.sub fun a ha => List.mem_cons_of_mem _ ha).up hv2 (fun _ z => by cases z) List.mem_cons_self
  generalize upd H2 R.l (.lst (vs ++ [.ref q])) = H3 at *
  walk_at "rd"
  refine ⟨_, _, dx, _, _, rfl, ob3, cR.cl, cR.book, rfl, ?_⟩
  refine hB3.inst (by rfl) ?_
  walk_at "rd"
  obtain ⟨S1, S2, S3⟩ := putMove_spec hR.cl pm
  refine ⟨R.A, _, moves ++ [m], B.steps.length, rfl, hB3, start_inv hR.cl pm, by rw [List.length_append]; show _ + 1 ≤ _; omega, fun H4 hB4 b4 => ?_⟩
  have hB4 : BookAt g H4 R.A (B.putMove moves.length m).1 := hB4
  have e4 : ((B.note (.move moves.length) m).close B.steps.length).2 = decide (B.kept.length < (B.putMove moves.length m).1.kept.length) := S3
  rw [e4]
  refine k H4 _ ⟨⟨dx, ?_⟩, ⟨_, b4.s _ _ hv3 hlF, lt3.tu b4.t⟩, hB4, hR.nl, S1, fun x hx => ?_⟩ (b3.trans (b4.sub fun a ha => List.mem_cons_of_mem _ ha)) S2.en S2
  · rw [S2.en]
    exact b4.s _ _ ob3 fun z => by
      obtain ⟨o, h1, _, h2⟩ := hB3.nt z
      rw [ob3] at h1; exact h2 _ _ _ (Option.some.inj h1).symm
  · rw [S2.en]
    rcases List.mem_append.mp hx with hx | hx
    · exact hR.mp x hx
    · rw [List.mem_singleton.mp hx]; exact pm
/-- a seating of the size put in -/
theorem put_ok {K : PySem.W.Frag} {g : Gd} {H : Hp} {Q : VK} {E : XK} {R : RA} {B : Bk} {moves : List (List Nat)} {q : Addr} {a : List Nat} (hR : RoomAt g H R B moves) (hq : H q = some (.tup (vN a))) (pa : IsP B.n a) (hm : moves.length < 200)
    (k : ∀ H' B', RoomAt g H' R B' (moves ++ [a]) → But R.F H H' → B'.n = B.n → Ext B B' → Q (.bl (decide (B.kept.length < B'.kept.length))) H') : sp_Room_put_move K g [.ref R.r, .ref q] H Q E := by
  have h := hR.n16
  have hl : (a.map fun (x : Nat) => (x : Int)).length = B.n := by rw [List.length_map, pa.len]
  have ho := seatB_N pa hR.n1 hR.n16
  refine ⟨R, B, moves, q, _, rfl, hR, by rw [← vN_eq]; exact hq, by omega, by omega, fun c => (by rw [ho] at c; cases c), fun _ c => absurd hl c, fun _ _ c => absurd hm (by omega), fun m em pm _ => ?_⟩
  rw [vInj] at em
  subst em
  exact k
def sp_Room_moves (K : PySem.W.Frag) (g : Gd) : Sp := fun vs H Q _ => ∃ (R : RA) (B : Bk) (moves : List (List Nat)), vs = [.ref R.r] ∧ RoomAt g H R B moves ∧ NewLT H moves Q
theorem len_Room_moves (K : PySem.W.Frag) (g : Gd) (vs : List V) (H : Hp) (Q : VK) (E : XK) (h : sp_Room_moves K g vs H Q E) : vs.length = 1 := by obtain ⟨_, _, _, rfl, _⟩ := h; rfl
--@facts Room.moves r_Room
abbrev N_Room_moves : List Str := ["self"]
/-- Room.moves -/
def t_Room_moves (K : PySem.W.Frag) (g : Gd) (E : XK) : TS :=
  (tRet (tCB (rListOf K) (tCons (tFld K (tVar 0) "told") tNil)))
theorem pure_Room_moves {K : PySem.W.Frag} {g : Gd} (cR : RmC K g) (vs : List V) (H : Hp) (Q : VK) (E : XK) (h : sp_Room_moves K g vs H Q E) : Rd1 (t_Room_moves K g E) N_Room_moves vs H Q := by
  obtain ⟨R, B, moves, rfl, hR, k⟩ := h
  obtain ⟨vs, hv, hl⟩ := hR.tl
  unfold t_Room_moves
  walk_at "rd"
  refine hR.f_told cR ?_
  walk_at "rd"
  refine ⟨R.l, vs, rfl, .inl (sqL hv), fun l hl0 => ?_⟩
  have s := (Same.refl H).new (o := .lst vs) hl0
  exact k l _ vs s hl0 upd_same (hl.mono s)
def manyTo (B : Bk) (i : Nat) : Nat := (B.rows.take i).foldl (fun m r => m * r.length) 1
def manyB (B : Bk) : Nat := manyTo B B.rows.length
theorem manyTo_succ {B : Bk} {i : Nat} (h : i < B.rows.length) : manyTo B (i + 1) = manyTo B i * (B.row i).length := by
  unfold manyTo
  have e : B.rows[i]? = some (B.row i) := by unfold Bk.row; rw [List.getD_eq_getElem?_getD, List.getElem?_eq_getElem h] <;> rfl
  rw [take_more e, List.foldl_append] <;> rfl
def sp_Room_how_many (K : PySem.W.Frag) (g : Gd) : Sp := fun vs H Q _ => ∃ (R : RA) (B : Bk) (moves : List (List Nat)), vs = [.ref R.r] ∧ RoomAt g H R B moves ∧ Q (.int (manyB B : Int)) H
theorem len_Room_how_many (K : PySem.W.Frag) (g : Gd) (vs : List V) (H : Hp) (Q : VK) (E : XK) (h : sp_Room_how_many K g vs H Q E) : vs.length = 1 := by obtain ⟨_, _, _, rfl, _⟩ := h; rfl
--@facts Room.how_many r_Room r_Book
abbrev N_Room_how_many : List Str := ["self", "many", "row"]
/-- Room.how_many -/
def t_Room_how_many (K : PySem.W.Frag) (g : Gd) (E : XK) : TS :=
  (tSeq (tAsg (tC (.int 1)) (gName 1))
    (tSeq (tFor (iList K (tFld K (tFld K (tVar 0) "book") "rows")) (gName 2) (tAsg (tOp rMulI (tVar 1) (tCB rLenDk (tCons (tVar 2) tNil))) (gName 1)))
    (tRet (tVar 1))))
theorem pure_Room_how_many {K : PySem.W.Frag} {g : Gd} (cR : RmC K g) (cB : BkC K g) (vs : List V) (H : Hp) (Q : VK) (E : XK) (h : sp_Room_how_many K g vs H Q E) : Rd1 (t_Room_how_many K g E) N_Room_how_many vs H Q := by
  obtain ⟨R, B, moves, rfl, hR, k⟩ := h
  have h16 := hR.n16
  have rl := hR.cl.ok.rl
  have hlen : (R.A.ds.map V.ref).length = B.rows.length := by rw [List.length_map, hR.bk.dl, rl]
  unfold t_Room_how_many
  walk_at "rd"
  refine hR.f_book cR ?_
  walk_at "rd"
  refine hR.bk.f_rows cB ?_
  refine ⟨R.A.lr, rfl, ⟨_, sqL hR.bk.rw⟩, for_list (K := K) (a := R.A.lr) (xs := R.A.ds.map V.ref) (fun i σ H' => H' = H ∧ ∃ x, σ = [some (.ref R.r), some (.int (manyTo B i : Int)), x]) ?_ ?_ ?_ ?_⟩
  · exact ⟨rfl, _, rfl⟩
  · rintro i σ H' _ ⟨rfl, _⟩; exact sqL hR.bk.rw
  · rintro i z σ H' hz ⟨rfl, x, rfl⟩
    rw [List.getElem?_map] at hz
    cases ed : R.A.ds[i]? with
    | none => rw [ed] at hz; cases hz
    | some d =>
      rw [ed] at hz
      cases hz
      have hd := hR.bk.ro i d ed
      have hi : i < B.rows.length := by
        have := (List.getElem?_eq_some_iff.mp ed).1
        rw [hR.bk.dl] at this
        omega
      have hrow := row_len hR.cl.ok.pre (k := i) (by omega)
      show tAsg _ _ _ (List.set _ 2 (some (V.ref d))) _
      walk_at "rd"
      refine ⟨d, _, rfl, hd, ?_⟩
      rw [rowV_len]
      refine mul_I (.inr ⟨by omega, by omega⟩) ?_
      walk_at "rd"
      refine ⟨rfl, some (.ref d), ?_⟩
      rw [manyTo_succ hi, Int.natCast_mul]
      rfl
  · rintro σ H' ⟨rfl, x, rfl⟩
    rw [hlen]
    walk_at "rd"
    exact k
def sp_Room_reaches (K : PySem.W.Frag) (g : Gd) : Sp := fun vs H Q E => ∃ (R : RA) (B : Bk) (moves : List (List Nat)) (q : Addr) (a : List Int), vs = [.ref R.r, .ref q] ∧ RoomAt g H R B moves ∧ H q = some (.tup (vI a)) ∧ a.length ≤ 1000 ∧
  (SeatB a = false → E (.ref g.NoSeating) none H) ∧ (SeatB a = true → a.length ≠ B.n → E (.ref g.OtherSize) none H) ∧ ∀ m, a = m.map (fun (x : Nat) => (x : Int)) → IsP B.n m → ∀ H' b, Same H H' → (b = true ↔ Sifts B m) → Q (.bl b) H'
theorem len_Room_reaches (K : PySem.W.Frag) (g : Gd) (vs : List V) (H : Hp) (Q : VK) (E : XK) (h : sp_Room_reaches K g vs H Q E) : vs.length = 2 := by obtain ⟨_, _, _, _, _, rfl, _⟩ := h; rfl
--@facts Room.reaches r_Room
abbrev N_Room_reaches : List Str := ["self", "a"]
/-- Room.reaches -/
def t_Room_reaches (K : PySem.W.Frag) (g : Gd) (E : XK) : TS :=
  (tSeq (tDrop (tMethS g.Room "ask" (sp_Room_ask K g) (WE (wE E)) (tVar 0) (tCons (tVar 1) tNil)))
    (tRet (tOp rEq (tOp (rIxT K) (tMethS g.Book "sifted" (sp_Book_sifted K g) (fun _ => E0) (tFld K (tVar 0) "book") (tCons (tVar 1) tNil)) (tC (.int 0))) (tFld K (tVar 0) "size"))))
theorem pure_Room_reaches {K : PySem.W.Frag} {g : Gd} (cR : RmC K g) (vs : List V) (H : Hp) (Q : VK) (E : XK) (h : sp_Room_reaches K g vs H Q E) : Rd1 (t_Room_reaches K g E) N_Room_reaches vs H Q := by
  obtain ⟨R, B, moves, q, a, rfl, hR, hq, hl, e1, e2, k⟩ := h
  unfold t_Room_reaches
  walk_at "rd"
  refine hR.inst (by rfl) ?_
  walk_at "rd"
  refine ⟨R, B, moves, q, a, rfl, hR, sqT hq, hl, fun c => e1 c, fun c1 c2 => e2 c1 c2, fun ca cl => ?_⟩
  obtain ⟨m, pm, em, _, _⟩ := seatB_is ca
  rw [cl] at pm
  have k := k m em pm
  rw [em, ← vN_eq] at hq
  walk_at "rd"
  refine hR.f_book cR ?_
  refine hR.bk.inst (by rfl) ?_
  walk_at "rd"
  refine ⟨R.A, B, moves, m, q, rfl, hR.bk, hR.cl.ok, pm, hq, fun r ql w H' s hr hr' _ _ _ => ?_⟩
  walk_at "rd"
  refine ix_T (i := 0) (sqT hr') rfl rfl ?_
  walk_at "rd"
  refine (hR.same s).f_size cR ?_
  walk_at "rd"
  refine k H' _ s ?_
  unfold Sifts
  rw [decide_eq_true_iff]
  omega
theorem reach_ok {K : PySem.W.Frag} {g : Gd} {H : Hp} {Q : VK} {E : XK} {R : RA} {B : Bk} {moves : List (List Nat)} {q : Addr} {a : List Nat} (hR : RoomAt g H R B moves) (hq : H q = some (.tup (vN a))) (pa : IsP B.n a)
    (k : ∀ H' b, Same H H' → (b = true ↔ Sifts B a) → Q (.bl b) H') : sp_Room_reaches K g [.ref R.r, .ref q] H Q E := by
  have h := hR.n16
  have hl : (a.map fun (x : Nat) => (x : Int)).length = B.n := by rw [List.length_map, pa.len]
  have ho := seatB_N pa hR.n1 hR.n16
  refine ⟨R, B, moves, q, _, rfl, hR, by rw [← vN_eq]; exact hq, by omega, fun c => (by rw [ho] at c; cases c), fun _ c => absurd hl c, fun m em pm => ?_⟩
  rw [vInj] at em
  subst em
  exact k
end Shf

/-! what is reached: the closed table holds just what the moves lead to -/
namespace Shf
open PySem L2
/-! ### what moves lead to -/
inductive Gen (n : Nat) (moves : List (List Nat)) : List Nat → Prop
  | one : Gen n moves (List.range n)
  | mul {a m : List Nat} : Gen n moves a → m ∈ moves → Gen n moves (jn a m)
section
variable {n : Nat} {moves : List (List Nat)}
theorem Gen.isP (hm : ∀ m ∈ moves, IsP n m) {a : List Nat} (h : Gen n moves a) : IsP n a := by
  induction h with
  | one => exact isP_id n
  | mul _ m ih => exact isP_jn ih (hm _ m)
theorem jn_assocP {a b c : List Nat} (ha : IsP n a) (hb : IsP n b) : jn (jn a b) c = jn a (jn b c) := jn_assoc fun x hx => by rw [hb.len]; exact ha.lt hx
theorem jn_idP {a : List Nat} (ha : IsP n a) : jn a (List.range n) = a := jn_id fun x hx => ha.lt hx
theorem id_jnP {a : List Nat} (ha : IsP n a) : jn (List.range n) a = a := by
  have := id_jn a
  rw [ha.len] at this
  exact this
theorem Gen.jn (hm : ∀ m ∈ moves, IsP n m) {a b : List Nat} (ha : Gen n moves a) (hb : Gen n moves b) : Gen n moves (Shf.jn a b) := by
  have pa := ha.isP hm
  induction hb with
  | one => rw [jn_idP pa]; exact ha
  | @mul b m hb mm ih =>
    rw [← jn_assocP pa (hb.isP hm)]
    exact .mul ih mm
theorem Gen.move (hm : ∀ m ∈ moves, IsP n m) {m : List Nat} (h : m ∈ moves) : Gen n moves m := by
  have := Gen.mul (.one (n := n)) h
  rw [id_jnP (hm m h)] at this
  exact this
theorem Gen.pw (hm : ∀ m ∈ moves, IsP n m) {a : List Nat} (h : Gen n moves a) : ∀ j, Gen n moves (Shf.pw a j)
  | 0 => by show Gen n moves (List.range a.length); rw [(h.isP hm).len]; exact .one
  | j + 1 => Gen.jn hm (Gen.pw hm h j) h
theorem inv_uniq {a b : List Nat} (ha : IsP n a) (hb : IsP n b) (e : Shf.jn b a = List.range n) : b = trn a := by
  have h1 : Shf.jn (Shf.jn b a) (trn a) = trn a := by rw [e, id_jnP (isP_trn ha)]
  rw [jn_assocP hb ha, jn_trn ha, jn_idP hb] at h1
  exact h1
theorem Gen.trn (hm : ∀ m ∈ moves, IsP n m) {a : List Nat} (h : Gen n moves a) : Gen n moves (Shf.trn a) := by
  have pa := h.isP hm
  have hp : 0 < ageN a := ageN_pos
  have e := (pw_age pa (ageN a)).mpr (Nat.dvd_refl _)
  obtain ⟨k, hk⟩ : ∃ k, ageN a = k + 1 := ⟨ageN a - 1, by omega⟩
  rw [hk] at e
  have : Shf.pw a k = Shf.trn a := inv_uniq pa (isP_pw pa k) e
  rw [← this]
  exact h.pw hm k
theorem Gen.mono {more : List (List Nat)} (hs : ∀ m ∈ moves, m ∈ more) {a : List Nat} (h : Gen n moves a) : Gen n more a := by
  induction h with
  | one => exact .one
  | mul _ m ih => exact .mul ih (hs _ m)
end
/-! ### all that a book has made is led to -/
section
variable {B : Bk} {moves : List (List Nat)}
theorem made_gen (h : BkOk B moves) (hm : ∀ m ∈ moves, IsP B.n m) : ∀ (i : Nat), i < B.made.length → Gen B.n moves (B.mk' i) := by
  intro i
  induction i using Nat.strongRecOn with
  | ind i ih =>
    intro hi
    have hs : i < B.steps.length := by rw [h.len]; exact hi
    have v := h.val i _ (List.getElem?_eq_getElem hs)
    have em : ∀ a, B.made[i]? = some a → B.mk' i = a := fun a e => by unfold Bk.mk'; rw [List.getD_eq_getElem?_getD, e] <;> rfl
    cases e : B.steps[i] with
    | rest => rw [e] at v; rw [em _ v]; exact .one
    | move j =>
      rw [e] at v
      obtain ⟨a, h1, h2⟩ := v
      rw [em _ h2]
      exact Gen.move hm (List.mem_of_getElem? h1)
    | back j =>
      rw [e] at v
      obtain ⟨h1, h2⟩ := v
      rw [em _ h2]
      exact (ih j h1 (by omega)).trn hm
    | thn j l =>
      rw [e] at v
      obtain ⟨h1, h2, h3⟩ := v
      rw [em _ h3]
      exact (ih j h1 (by omega)).jn hm (ih l h2 (by omega))
/-! ### sifting from a seat on -/
/-- it leaves the seats below k and goes back from k on -/
inductive Sk (B : Bk) : Nat → List Nat → Prop
  | last : Sk B B.n (List.range B.n)
  | step {k j i : Nat} {b : List Nat} : k < B.n → rowGet (B.row k) j = some i → Sk B (k + 1) b → Sk B k (jn b (B.mk' i))
theorem Sk.le {k : Nat} {a : List Nat} (s : Sk B k a) : k ≤ B.n := by
  cases s with
  | last => exact Nat.le_refl _
  | step h _ _ => omega
theorem Sk.isP (h : BkOk B moves) {k : Nat} {a : List Nat} (s : Sk B k a) : IsP B.n a := by
  induction s with
  | last => exact isP_id _
  | step hk hg _ ih => exact isP_jn ih (h.mkP ((h.row _ hk).en _ _ (rowGet_mem hg)).1)
theorem Sk.fix (h : BkOk B moves) {k : Nat} {a : List Nat} (s : Sk B k a) : Fix k a := by
  induction s with
  | last => exact fix_id _ _ (Nat.le_refl _)
  | @step k j i b hk hg s ih =>
    have en := (h.row _ hk).en _ _ (rowGet_mem hg)
    exact Fix.jn (s.isP h) (by omega) (fun x hx => ih x (by omega)) en.2.1
/-- what is reached from a seat on sends it where the entry does -/
theorem Sk.at (h : BkOk B moves) {k j i : Nat} {b : List Nat} (hk : k < B.n) (hg : rowGet (B.row k) j = some i) (s : Sk B (k + 1) b) : (jn b (B.mk' i)).getD k 0 = j := by
  have en := (h.row _ hk).en _ _ (rowGet_mem hg)
  rw [jn_get (by rw [(s.isP h).len]; exact hk), s.fix h k (Nat.lt_succ_self k)]
  exact en.2.2.1
theorem go_went : ∀ (f k : Nat) (left w w' : List Nat), (B.siftGo f k left w).1 = (B.siftGo f k left w').1
  | 0, _, _, _, _ => rfl
  | f + 1, k, left, w, w' => by
    unfold Bk.siftGo
    cases rowGet (B.row k) (left.getD k 0) with
    | none => rfl
    | some i => exact go_went f (k + 1) _ _ _
/-- Sk and the sifting are one -/
theorem Sk.go (h : BkOk B moves) {k : Nat} {a : List Nat} (s : Sk B k a) : ∀ f w, k + f = B.n → (B.siftGo f k a w).1 = B.n := by
  induction s with
  | last =>
    intro f w e
    obtain rfl : f = 0 := by omega
    rfl
  | @step k j i b hk hg s ih =>
    intro f w e
    obtain ⟨f', rfl⟩ : ∃ f', f = f' + 1 := ⟨f - 1, by omega⟩
    have en := (h.row _ hk).en _ _ (rowGet_mem hg)
    have pm := h.mkP en.1
    unfold Bk.siftGo
    rw [s.at h hk hg, hg]
    show (B.siftGo f' (k + 1) (jn (jn b (B.mk' i)) (trn (B.mk' i))) (w ++ [i])).1 = B.n
    rw [jn_assocP (s.isP h) pm, jn_trn pm, jn_idP (s.isP h)]
    exact ih f' _ (by omega)
theorem Sk.of (h : BkOk B moves) : ∀ (f k : Nat) (a w : List Nat), k + f = B.n → IsP B.n a → Fix k a → (B.siftGo f k a w).1 = B.n → Sk B k a
  | 0, k, a, w, e, pa, fa, _ => by
    obtain rfl : k = B.n := by omega
    rw [Fix.id_of pa fa]
    exact .last
  | f + 1, k, a, w, e, pa, fa, hs => by
    unfold Bk.siftGo at hs
    cases c : rowGet (B.row k) (a.getD k 0) with
    | none =>
      rw [c] at hs
      have : k = B.n := hs
      omega
    | some i =>
      rw [c] at hs
      have hk : k < B.n := by omega
      have en := (h.row _ hk).en _ _ (rowGet_mem c)
      have pm := h.mkP en.1
      have pl := isP_jn pa (isP_trn pm)
      have fl : Fix (k + 1) (jn a (trn (B.mk' i))) := fun x hx => by
        rw [jn_get (by rw [pa.len]; omega)]
        by_cases cx : x = k
        · rw [cx, ← en.2.2.1]
          exact trn_get pm (by omega)
        · have := fa.jn pa (by omega) (Fix.trn pm (by omega) en.2.1) x (by omega)
          rw [jn_get (by rw [pa.len]; omega)] at this
          exact this
      have s := Sk.of h f (k + 1) _ _ (by omega) pl fl hs
      have e2 : jn (jn a (trn (B.mk' i))) (B.mk' i) = a := by rw [jn_assocP pa (isP_trn pm), trn_jn pm, jn_idP pa]
      rw [← e2]
      exact .step hk c s
theorem sifts_sk (h : BkOk B moves) {a : List Nat} (pa : IsP B.n a) : Sifts B a ↔ Sk B 0 a :=
  ⟨fun s => Sk.of h B.n 0 a [] (by omega) pa (fun x hx => absurd hx (Nat.not_lt_zero x)) s, fun s => s.go h B.n [] (by omega)⟩
/-- what leaves the seats below k goes back from there -/
theorem Sk.up (h : BkOk B moves) : ∀ {k : Nat} {a : List Nat}, Sk B k a → ∀ {m : Nat}, k ≤ m → m ≤ B.n → Fix m a → Sk B m a := by
  intro k a s m hkm hm fa
  have pa := s.isP h
  obtain ⟨f, hf⟩ : ∃ f, k + f = B.n := ⟨B.n - k, by have := s.le; omega⟩
  have hs := s.go h f [] hf
  clear s
  induction f generalizing k with
  | zero =>
    obtain rfl : m = k := by omega
    exact Sk.of h 0 m a [] hf pa fa hs
  | succ f ih =>
    by_cases c : m = k
    · subst c
      exact Sk.of h (f + 1) m a [] hf pa fa hs
    · unfold Bk.siftGo at hs
      rw [fa k (by omega), h.get0 (by omega)] at hs
      have e : jn a (trn (B.mk' 0)) = a := by rw [h.mk0, trn_id, jn_idP pa]
      have hs : (B.siftGo f (k + 1) (jn a (trn (B.mk' 0))) ([] ++ [0])).1 = B.n := hs
      rw [e] at hs
      exact ih (k := k + 1) (by omega) (by omega) (by rw [go_went (w' := [0])]; exact hs)
theorem Sk.down (h : BkOk B moves) {k : Nat} {a : List Nat} (s : Sk B k a) : ∀ (d m : Nat), m + d = k → Sk B m a
  | 0, m, e => by obtain rfl : m = k := by omega
                  exact s
  | d + 1, m, e => by
    have := s.le
    have hm : m < B.n := by omega
    have t := Sk.step hm (h.get0 hm) (Sk.down h s d (m + 1) (by omega))
    rw [h.mk0, jn_idP (s.isP h)] at t
    exact t
/-- the entries of a row go back from there -/
theorem Sk.entry (h : BkOk B moves) {k j i : Nat} (hk : k < B.n) (hg : rowGet (B.row k) j = some i) : Sk B k (B.mk' i) := by
  have s0 : Sk B (k + 1) (List.range B.n) := by
    have := Sifts.id h.pre
    rw [sifts_sk h (isP_id _)] at this
    exact this.up h (Nat.zero_le _) (by omega) (fix_id _ _ (by omega))
  have := Sk.step hk hg s0
  rw [id_jnP (h.mkP ((h.row _ hk).en _ _ (rowGet_mem hg)).1)] at this
  exact this
/-- two entries, one behind the other -/
theorem Sk.two (C : Closed B moves) {k j i k' j' i' : Nat} (hk : k < B.n) (hg : rowGet (B.row k) j = some i) (hkk : k ≤ k') (hk' : k' < B.n) (hg' : rowGet (B.row k') j' = some i') : Sk B k (jn (B.mk' i) (B.mk' i')) := by
  have h := C.ok
  have e1 := (h.row _ hk).en _ _ (rowGet_mem hg)
  have e2 := (h.row _ hk').en _ _ (rowGet_mem hg')
  have p1 := h.mkP e1.1
  have p2 := h.mkP e2.1
  have fx : Fix k (jn (B.mk' i) (B.mk' i')) := e1.2.1.jn p1 (by omega) fun x hx => e2.2.1 x (by omega)
  have s0 : Sk B 0 (jn (B.mk' i) (B.mk' i')) := by
    rw [← sifts_sk h (isP_jn p1 p2)]
    rcases e1.2.2.2 with z | z
    · rw [z, h.mk0, id_jnP p2, sifts_sk h p2]
      exact (Sk.entry h hk' hg').down h k' 0 (by omega)
    · rcases e2.2.2.2 with z' | z'
      · rw [z', h.mk0, jn_idP p1, sifts_sk h p1]
        exact (Sk.entry h hk hg).down h k 0 (by omega)
      · exact C.cl _ z _ z'
  exact s0.up h (Nat.zero_le _) (by omega) fx
/-- what goes back from k on is closed: downwards by the seat -/
theorem Sk.jn (C : Closed B moves) : ∀ (d k : Nat), k + d = B.n → ∀ {a b : List Nat}, Sk B k a → Sk B k b → Sk B k (Shf.jn a b)
  | 0, k, e, a, b, sa, sb => by
    have h := C.ok
    obtain rfl : k = B.n := by omega
    have pb := sb.isP h
    rw [Fix.id_of pb (sb.fix h), jn_idP (sa.isP h)]
    exact sa
  | d + 1, k, e, a, b, sa, sb => by
    have h := C.ok
    have ih := fun {a b : List Nat} (x : Sk B (k + 1) a) (y : Sk B (k + 1) b) => Sk.jn C d (k + 1) (by omega) x y
    -- an entry of a row from k on behind it
    have one : ∀ {a : List Nat}, Sk B k a → ∀ {k' j' i' : Nat}, k ≤ k' → k' < B.n → rowGet (B.row k') j' = some i' → Sk B k (Shf.jn a (B.mk' i')) := by
      intro a sa k' j' i' hkk hk' hg'
      cases sa with
      | last => omega
      | @step _ j i b hk hg s =>
        have pm := h.mkP ((h.row _ hk).en _ _ (rowGet_mem hg)).1
        rw [jn_assocP (s.isP h) pm]
        have t := Sk.two C hk hg hkk hk' hg'
        revert t
        generalize Shf.jn (B.mk' i) (B.mk' i') = z
        intro t
        cases t with
        | last => omega
        | @step _ j2 i2 c hk2 hg2 s2 =>
          rw [← jn_assocP (s.isP h) (s2.isP h)]
          exact .step hk hg2 (ih s s2)
    -- what goes back from m on behind it
    have many : ∀ (f m : Nat), m + f = B.n → k ≤ m → ∀ {c : List Nat}, Sk B m c → ∀ {a : List Nat}, Sk B k a → Sk B k (Shf.jn a c) := by
      intro f
      induction f with
      | zero =>
        intro m em hkm c sc a sa
        obtain rfl : m = B.n := by omega
        rw [Fix.id_of (sc.isP h) (sc.fix h), jn_idP (sa.isP h)]
        exact sa
      | succ f ihf =>
        intro m em hkm c sc a sa
        cases sc with
        | last => omega
        | @step _ j i b hm hg s =>
          rw [← jn_assocP (sa.isP h) (s.isP h)]
          exact one (ihf (m + 1) (by omega) (by omega) s sa) hkm hm hg
    exact many (d + 1) k (by omega) (Nat.le_refl _) sb sa
/-- what the table leads back to rest is what the moves lead to -/
theorem sk_gen (C : Closed B moves) (hm : ∀ m ∈ moves, IsP B.n m) {k : Nat} {a : List Nat} (s : Sk B k a) : Gen B.n moves a := by
  induction s with
  | last => exact .one
  | step hk hg _ ih => exact ih.jn hm (made_gen C.ok hm _ ((C.ok.row _ hk).en _ _ (rowGet_mem hg)).1)
theorem gen_sk (C : Closed B moves) (hm : ∀ m ∈ moves, IsP B.n m) {a : List Nat} (g : Gen B.n moves a) : Sk B 0 a := by
  induction g with
  | one => exact (sifts_sk C.ok (isP_id _)).mp (Sifts.id C.ok.pre)
  | mul _ m ih => exact Sk.jn C B.n 0 (by omega) ih ((sifts_sk C.ok (hm _ m)).mp (C.mv _ m))
theorem sifts_gen (C : Closed B moves) (hm : ∀ m ∈ moves, IsP B.n m) {a : List Nat} (pa : IsP B.n a) : Sifts B a ↔ Gen B.n moves a :=
  ⟨fun s => sk_gen C hm ((sifts_sk C.ok pa).mp s), fun g => (sifts_sk C.ok pa).mpr (gen_sk C hm g)⟩
/-! ### how many -/
def elems (B : Bk) : Nat → Nat → List (List Nat)
  | 0, _ => [List.range B.n]
  | f + 1, k => (B.row k).flatMap fun p => (elems B f (k + 1)).map fun b => jn b (B.mk' p.2)
theorem elems_mem (h : BkOk B moves) : ∀ (f k : Nat), k + f = B.n → ∀ {a : List Nat}, a ∈ elems B f k ↔ Sk B k a
  | 0, k, e, a => by
    obtain rfl : k = B.n := by omega
    constructor
    · intro m; rw [List.mem_singleton.mp m]; exact .last
    · intro s
      refine List.mem_singleton.mpr ?_
      exact Fix.id_of (s.isP h) (s.fix h)
  | f + 1, k, e, a => by
    have ih := fun {a : List Nat} => elems_mem h f (k + 1) (by omega) (a := a)
    show a ∈ (B.row k).flatMap _ ↔ _
    rw [List.mem_flatMap]
    constructor
    · rintro ⟨p, hp, ha⟩
      obtain ⟨b, hb, rfl⟩ := List.mem_map.mp ha
      exact .step (by omega) (rowGet_of (h.row k (by omega)).nd (j := p.1) hp) (ih.mp hb)
    · intro s
      cases s with
      | last => omega
      | @step _ j i b hk hg s => exact ⟨(j, i), rowGet_mem hg, List.mem_map.mpr ⟨b, ih.mpr s, rfl⟩⟩
theorem jn_cancel {n : Nat} {a b c : List Nat} (ha : IsP n a) (hb : IsP n b) (hc : IsP n c) (e : jn a c = jn b c) : a = b := by
  have : jn (jn a c) (trn c) = jn (jn b c) (trn c) := by rw [e]
  rw [jn_assocP ha hc, jn_assocP hb hc, jn_trn hc, jn_idP ha, jn_idP hb] at this
  exact this
theorem elems_nd (h : BkOk B moves) : ∀ (f k : Nat), k + f = B.n → (elems B f k).Nodup
  | 0, k, e => by show [_].Nodup; simp
  | f + 1, k, e => by
    have ih := elems_nd h f (k + 1) (by omega)
    have hk : k < B.n := by omega
    have ro := h.row k hk
    show ((B.row k).flatMap fun p => (elems B f (k + 1)).map fun b => jn b (B.mk' p.2)).Nodup
    have key : ∀ r : List (Nat × Nat), (r.map (·.1)).Nodup → (∀ p ∈ r, p ∈ B.row k) → (r.flatMap fun p => (elems B f (k + 1)).map fun b => jn b (B.mk' p.2)).Nodup ∧ ∀ a ∈ (r.flatMap fun p => (elems B f (k + 1)).map fun b => jn b (B.mk' p.2)), a.getD k 0 ∈ r.map (·.1) := by
      intro r
      induction r with
      | nil => intro _ _; exact ⟨List.nodup_nil, fun a ha => by cases ha⟩
      | cons p r ihr =>
        intro nd hs
        have nd : (p.1 :: r.map (·.1)).Nodup := nd
        obtain ⟨n1, n2⟩ := List.nodup_cons.mp nd
        obtain ⟨r1, r2⟩ := ihr n2 fun q hq => hs q (List.mem_cons_of_mem _ hq)
        have hp := hs p List.mem_cons_self
        have pm := h.mkP (ro.en _ _ hp).1
        have at_ : ∀ b ∈ elems B f (k + 1), (jn b (B.mk' p.2)).getD k 0 = p.1 := fun b hb => Sk.at h hk (rowGet_of ro.nd (j := p.1) hp) ((elems_mem h f (k + 1) (by omega)).mp hb)
        rw [List.flatMap_cons]
        refine ⟨List.nodup_append.mpr ⟨?_, r1, fun x hx y hy e => ?_⟩, fun a ha => ?_⟩
        · refine List.pairwise_map.mpr (List.Pairwise.imp_of_mem (fun {a b} ha hb hne e => hne ?_) ih)
          exact jn_cancel (((elems_mem h f (k + 1) (by omega)).mp ha).isP h) (((elems_mem h f (k + 1) (by omega)).mp hb).isP h) pm e
        · obtain ⟨b, hb, rfl⟩ := List.mem_map.mp hx
          have := r2 y hy
          rw [← e, at_ b hb] at this
          exact n1 this
        · rcases List.mem_append.mp ha with ha | ha
          · obtain ⟨b, hb, rfl⟩ := List.mem_map.mp ha
            rw [at_ b hb]
            exact List.mem_cons_self
          · exact List.mem_cons_of_mem _ (r2 a ha)
    exact (key _ ro.nd fun _ h => h).1
/-- the product of the rows' lengths from k on -/
def belowK (B : Bk) : Nat → Nat → Nat
  | 0, _ => 1
  | f + 1, k => (B.row k).length * belowK B f (k + 1)
theorem elems_len (B : Bk) : ∀ f k, (elems B f k).length = belowK B f k
  | 0, _ => rfl
  | f + 1, k => by
    show ((B.row k).flatMap _).length = (B.row k).length * belowK B f (k + 1)
    rw [← elems_len B f (k + 1)]
    generalize B.row k = r
    induction r with
    | nil => rw [List.length_nil, Nat.zero_mul] <;> rfl
    | cons p r ih =>
      rw [List.flatMap_cons, List.length_append, ih, List.length_map, List.length_cons, Nat.add_mul, Nat.one_mul, Nat.add_comm]
/-- two lists without twice the same, of the same: as long -/
theorem nd_len {α : Type} [DecidableEq α] {a b : List α} (ha : a.Nodup) (hb : b.Nodup) (h : ∀ x, x ∈ a ↔ x ∈ b) : a.length = b.length :=
  Nat.le_antisymm (nd_sub_len ha fun x hx => (h x).mp hx) (nd_sub_len hb fun x hx => (h x).mpr hx)
end
theorem many_below {B : Bk} (rl : B.rows.length = B.n) : ∀ (f k : Nat), k + f = B.n → manyTo B k * belowK B f k = manyB B
  | 0, k, e => by
    obtain rfl : k = B.n := by omega
    show manyTo B B.n * 1 = manyTo B B.rows.length
    rw [Nat.mul_one, rl]
  | f + 1, k, e => by
    rw [← many_below rl f (k + 1) (by omega), manyTo_succ (by omega)]
    show manyTo B k * ((B.row k).length * belowK B f (k + 1)) = _
    rw [Nat.mul_assoc]
theorem many_eq {B : Bk} (rl : B.rows.length = B.n) : manyB B = belowK B B.n 0 := by
  have := many_below rl B.n 0 (by omega)
  rw [← this]
  show 1 * _ = _
  rw [Nat.one_mul]
/-- how many there are -/
theorem many_gen {B : Bk} {moves : List (List Nat)} (C : Closed B moves) (hm : ∀ m ∈ moves, IsP B.n m) {l : List (List Nat)} (nd : l.Nodup) (hl : ∀ a, a ∈ l ↔ Gen B.n moves a) : manyB B = l.length := by
  rw [many_eq C.ok.rl, ← elems_len]
  refine nd_len (elems_nd C.ok B.n 0 (by omega)) nd fun x => ?_
  rw [elems_mem C.ok B.n 0 (by omega), hl]
  exact ⟨fun s => sk_gen C hm s, fun g => gen_sk C hm g⟩
end Shf

/-! all rows of moves, worked out; law k09 -/
namespace Shf
open PySem L2
theorem row_len_le {B B' : Bk} {moves moves' : List (List Nat)} (h : BkPre B moves) (h' : BkPre B' moves') (e : Ext B B') {k : Nat} (hk : k < B.n) : 1 ≤ (B.row k).length ∧ (B.row k).length ≤ (B'.row k).length := by
  have ro := h.row k hk
  have ro' := h'.row k (by rw [e.en]; exact hk)
  refine ⟨List.length_pos_of_mem ro.hd, ?_⟩
  have := nd_sub_len (m := (B'.row k).map (·.1)) ro.nd fun x hx => by
    obtain ⟨p, hp, rfl⟩ := List.mem_map.mp hx
    have := rowGet_mem (e.rg k p.1 p.2 (rowGet_of ro.nd hp))
    exact List.mem_map.mpr ⟨_, this, rfl⟩
  rw [List.length_map, List.length_map] at this
  exact this
def sumK (B : Bk) : Nat → Nat → Nat
  | 0, _ => 0
  | f + 1, k => (B.row k).length + sumK B f (k + 1)
theorem sumK_eq {B : Bk} : ∀ (f k : Nat), k + f = B.rows.length → sumK B f k = ((B.rows.drop k).map List.length).sum
  | 0, k, e => by rw [List.drop_eq_nil_of_le (by omega)] <;> rfl
  | f + 1, k, e => by
    have hk : k < B.rows.length := by omega
    have e1 : B.row k = B.rows[k] := by unfold Bk.row; rw [List.getD_eq_getElem?_getD, List.getElem?_eq_getElem hk] <;> rfl
    rw [List.drop_eq_getElem_cons hk]
    show (B.row k).length + sumK B f (k + 1) = B.rows[k].length + ((B.rows.drop (k + 1)).map List.length).sum
    rw [e1, sumK_eq f (k + 1) (by omega)]
theorem belowK_pos {B : Bk} {moves : List (List Nat)} (h : BkPre B moves) : ∀ (f k : Nat), k + f = B.n → 0 < belowK B f k
  | 0, _, _ => Nat.zero_lt_one
  | f + 1, k, e => Nat.mul_pos (row_len_le h h (Ext.refl B) (by omega)).1 (belowK_pos h f (k + 1) (by omega))
theorem below_grow {B B' : Bk} {moves moves' : List (List Nat)} (h : BkPre B moves) (h' : BkPre B' moves') (e : Ext B B') : ∀ (f k : Nat), k + f = B.n →
    sumK B f k ≤ sumK B' f k ∧ belowK B f k ≤ belowK B' f k ∧ (sumK B f k = sumK B' f k → belowK B f k = belowK B' f k) ∧ (sumK B f k < sumK B' f k → belowK B f k < belowK B' f k)
  | 0, _, _ => ⟨Nat.le_refl _, Nat.le_refl _, fun _ => rfl, fun z => absurd z (Nat.lt_irrefl _)⟩
  | f + 1, k, ek => by
    obtain ⟨a1, a2⟩ := row_len_le h h' e (k := k) (by omega)
    obtain ⟨i1, i2, i3, i4⟩ := below_grow h h' e f (k + 1) (by omega)
    have p0 := belowK_pos h f (k + 1) (by omega)
    show (B.row k).length + sumK B f (k + 1) ≤ (B'.row k).length + sumK B' f (k + 1) ∧ (B.row k).length * belowK B f (k + 1) ≤ (B'.row k).length * belowK B' f (k + 1) ∧
      ((B.row k).length + sumK B f (k + 1) = (B'.row k).length + sumK B' f (k + 1) → (B.row k).length * belowK B f (k + 1) = (B'.row k).length * belowK B' f (k + 1)) ∧
      ((B.row k).length + sumK B f (k + 1) < (B'.row k).length + sumK B' f (k + 1) → (B.row k).length * belowK B f (k + 1) < (B'.row k).length * belowK B' f (k + 1))
    refine ⟨by omega, Nat.mul_le_mul a2 i2, fun z => ?_, fun z => ?_⟩
    · rw [i3 (by omega), show (B.row k).length = (B'.row k).length by omega]
    · by_cases c : (B.row k).length < (B'.row k).length
      · exact Nat.lt_of_lt_of_le (Nat.mul_lt_mul_of_pos_right c p0) (Nat.mul_le_mul_left _ i2)
      · have c : (B.row k).length = (B'.row k).length := by omega
        rw [← c]
        exact Nat.mul_lt_mul_of_pos_left (i4 (by omega)) a1
theorem many_grow {B B' : Bk} {moves moves' : List (List Nat)} (h : BkPre B moves) (h' : BkPre B' moves') (e : Ext B B') : decide (B.kept.length < B'.kept.length) = decide (manyB B < manyB B') := by
  have en := e.en
  have s1 := sumK_eq (B := B) B.n 0 (by rw [h.rl]; omega)
  have s2 := sumK_eq (B := B') B.n 0 (by rw [h'.rl]; omega)
  rw [List.drop_zero] at s1 s2
  have c1 := h.cnt
  have c2 := h'.cnt
  obtain ⟨g1, g2, g3, g4⟩ := below_grow h h' e B.n 0 (by omega)
  rw [many_eq h.rl, many_eq h'.rl, en]
  refine dec_iff ⟨fun z => g4 (by omega), fun z => ?_⟩
  refine Decidable.byContradiction fun c => ?_
  have := g3 (by omega)
  omega
/-! ### how many there can be -/
def fct : Nat → Nat
  | 0 => 1
  | n + 1 => (n + 1) * fct n
def permsF : Nat → List Nat → List (List Nat)
  | 0, _ => [[]]
  | f + 1, l => l.flatMap fun x => (permsF f (l.erase x)).map (x :: ·)
theorem permsF_len : ∀ (f : Nat) (l : List Nat), l.length = f → (permsF f l).length = fct f
  | 0, _, _ => rfl
  | f + 1, l, h => by
    show (l.flatMap _).length = (f + 1) * fct f
    have key : ∀ r : List Nat, (∀ x ∈ r, x ∈ l) → (r.flatMap fun x => (permsF f (l.erase x)).map (x :: ·)).length = r.length * fct f := by
      intro r
      induction r with
      | nil => intro _; rw [List.length_nil, Nat.zero_mul] <;> rfl
      | cons x r ih =>
        intro hs
        rw [List.flatMap_cons, List.length_append, ih fun y hy => hs y (List.mem_cons_of_mem _ hy), List.length_map, permsF_len f (l.erase x) (by rw [List.length_erase_of_mem (hs x List.mem_cons_self), h] <;> rfl), List.length_cons, Nat.add_mul, Nat.one_mul, Nat.add_comm]
    rw [key l fun _ h => h, h]
theorem permsF_mem : ∀ (f : Nat) (l a : List Nat), a.length = f → a.Perm l → a ∈ permsF f l
  | 0, l, a, ha, _ => by rw [List.length_eq_zero_iff.mp ha]; exact List.mem_singleton.mpr rfl
  | f + 1, l, [], ha, _ => by cases ha
  | f + 1, l, x :: a, ha, hp => by
    have hx : x ∈ l := hp.mem_iff.mp List.mem_cons_self
    have hp2 : a.Perm (l.erase x) := List.Perm.cons_inv (hp.trans (List.perm_cons_erase hx))
    show _ ∈ l.flatMap _
    exact List.mem_flatMap.mpr ⟨x, hx, List.mem_map.mpr ⟨a, permsF_mem f _ a (by simpa using ha) hp2, rfl⟩⟩
theorem nd_fct {n : Nat} {l : List (List Nat)} (nd : l.Nodup) (h : ∀ a ∈ l, IsP n a) : l.length ≤ fct n := by
  rw [← permsF_len n (List.range n) List.length_range]
  exact nd_sub_len nd fun a ha => permsF_mem n _ a (h a ha).len (h a ha)
theorem fct_le {n : Nat} (h : n ≤ 7) : fct n ≤ 5040 := (by decide : ∀ n < 8, fct n ≤ 5040) n (by omega)
/-! ### a tuple within a list of tuples -/
def dN (a : List Nat) : PyData := dT (a.map fun (x : Nat) => (x : Int))
theorem dp_LT {K : PySem.W.Frag} {H : Hp} {l : Addr} {vs : List V} {as : List (List Nat)} (hl : SqL K H l vs) (h : LT H vs as) : Dp K H (.ref l) (.list (as.map dN)) := by
  refine .lst hl ?_
  clear hl
  induction h with
  | nil => exact .nil
  | @cons p a vs as hp _ ih =>
    refine .cons ?_ ih
    have : H p = some (.tup (vI (a.map fun (x : Nat) => (x : Int)))) := by rw [← vN_eq]; exact hp
    exact dp_T (sqT this)
theorem shp_LT (as : List (List Nat)) : SeqAt.shaped (.list (as.map dN)) = true := by
  refine shp ?_ ?_
  · unfold PyData.canLay0
    exact canAll_map (fun a => can_T _) as
  · unfold PyData.depth
    have := depthAll_map (f := dN) (n := 1) (fun a => dep_T _) as
    omega
theorem any_dN (a : List Nat) (as : List (List Nat)) : (as.map dN).any (fun z => PyData.eqv z (dN a)) = decide (a ∈ as) := by
  induction as with
  | nil => rfl
  | cons b as ih =>
    rw [List.map_cons, List.any_cons, ih]
    have e : PyData.eqv (dN b) (dN a) = decide (b = a) := by
      unfold dN
      rw [eqv_T]
      exact dec_iff vInj
    rw [e]
    by_cases c : b = a
    · subst c
      rw [decide_eq_true rfl, Bool.true_or, decide_eq_true List.mem_cons_self]
    · rw [decide_eq_false c, Bool.false_or]
      refine dec_iff ⟨fun z => List.mem_cons_of_mem _ z, fun z => ?_⟩
      rcases List.mem_cons.mp z with z | z
      · exact absurd z.symm c
      · exact z
section
variable {K : PySem.W.Frag} {H : Hp} {Q : VK} {p l : Addr} {a : List Nat} {vs : List V} {as : List (List Nat)}
theorem in_LT (hp : SqT K H p (vN a)) (hl : SqL K H l vs) (h : LT H vs as) (k : Q (.bl (decide (a ∈ as))) H) : rInD K (.ref p) (.ref l) H Q := by
  rw [vN_eq] at hp
  exact ⟨dN a, as.map dN, dp_T hp, dp_LT hl h, shp_T _, shp_LT as, by rw [any_dN]; exact k⟩
theorem notin_LT (hp : SqT K H p (vN a)) (hl : SqL K H l vs) (h : LT H vs as) (k : Q (.bl (!decide (a ∈ as))) H) : rNotInD K (.ref p) (.ref l) H Q := by
  rw [vN_eq] at hp
  exact ⟨dN a, as.map dN, dp_T hp, dp_LT hl h, shp_T _, shp_LT as, by rw [any_dN]; exact k⟩
end
end Shf

/-! two rooms; laws k17, k15 -/
namespace Shf
open PySem L2
def sp_within (K : PySem.W.Frag) (g : Gd) : Sp := fun vs H Q E => ∃ (R S : RA) (B C : Bk) (ms ns : List (List Nat)), vs = [.ref R.r, .ref S.r] ∧ RoomAt g H R B ms ∧ RoomAt g H S C ns ∧ (B.n ≠ C.n → E (.ref g.OtherSize) none H) ∧
  (B.n = C.n → ∀ H' b, Same H H' → (b = true ↔ ∀ m ∈ ms, Gen C.n ns m) → Q (.bl b) H')
theorem len_within (K : PySem.W.Frag) (g : Gd) (vs : List V) (H : Hp) (Q : VK) (E : XK) (h : sp_within K g vs H Q E) : vs.length = 2 := by obtain ⟨_, _, _, _, _, _, rfl, _⟩ := h; rfl
--@facts within r_Room
abbrev N_within : List Str := ["room", "other", "move"]
/-- within -/
def t_within (K : PySem.W.Frag) (g : Gd) (E : XK) : TS :=
  (tSeq (tIfS (tTest (tOp rNe (tFld K (tVar 0) "size") (tFld K (tVar 1) "size"))) (tRaiseW (wE E) g.OtherSize) tNext)
    (tSeq (tFor (iList K (tMethS g.Room "moves" (sp_Room_moves K g) (fun _ => E0) (tVar 0) tNil)) (gName 2) (tIfS (tNot (tB (tMethS g.Room "reaches" (sp_Room_reaches K g) (WE (wE E)) (tVar 1) (tCons (tVar 2) tNil)))) (tRet (tC (.bl false))) tNext))
    (tRet (tC (.bl true)))))
theorem pure_within {K : PySem.W.Frag} {g : Gd} (cR : RmC K g) (vs : List V) (H : Hp) (Q : VK) (E : XK) (h : sp_within K g vs H Q E) : Rd1 (t_within K g E) N_within vs H Q := by
  obtain ⟨R, S, B, C, ms, ns, rfl, hR, hS, e1, k⟩ := h
  unfold t_within
  walk_at "rd"
  refine hR.f_size cR ?_
  walk_at "rd"
  refine hS.f_size cR ?_
  walk_at "rd"
  refine if_nd (fun c => e1 (by omega)) (fun c => ?_)
  have c : B.n = C.n := by omega
  have k := k c
  walk_at "rd"
  refine hR.inst (by rfl) ?_
  walk_at "rd"
  refine ⟨R, B, ms, rfl, hR, fun t H1 tv s1 ht ht1 htl => ?_⟩
  refine ⟨t, rfl, ⟨_, sqL ht1⟩, for_list (K := K) (a := t) (xs := tv) (fun i σ H' => (∃ y, σ = [some (.ref R.r), some (.ref S.r), y]) ∧ Same H1 H' ∧ ∀ m ∈ ms.take i, Gen C.n ns m) ?_ ?_ ?_ ?_⟩
  · exact ⟨⟨_, rfl⟩, Same.refl _, fun m hm => by rw [List.take_zero] at hm; cases hm⟩
  · rintro i σ H' _ ⟨_, s, _⟩
    exact sqL (s _ _ ht1)
  · rintro i x σ H2 hx ⟨⟨y, rfl⟩, s2, hd⟩
    obtain ⟨q, a, rfl, hia, hq⟩ := (htl.mono s2).get' hx
    have pa := hR.mp a (List.mem_of_getElem? hia)
    rw [c] at pa
    have hS2 := hS.same (s1.trans s2)
    show tIfS _ _ _ _ (List.set _ 2 (some (V.ref q))) H2
    walk_at "rd"
    refine hS2.inst (by rfl) ?_
    walk_at "rd"
    refine reach_ok hS2 hq pa fun H3 b s3 hb => ?_
    rw [sifts_gen hS.cl hS.mp pa] at hb
    walk_at "rd"
    refine if_nb (fun cb => ?_) (fun cb => ?_)
    · walk_at "rd"
      refine k _ _ (s1.trans (s2.trans s3)) ⟨fun z => (by cases z), fun z => ?_⟩
      have := hb.mpr (z a (List.mem_of_getElem? hia))
      rw [cb] at this
      cases this
    · walk_at "rd"
      refine ⟨⟨_, rfl⟩, s2.trans s3, fun m hm => ?_⟩
      rw [take_more hia] at hm
      rcases List.mem_append.mp hm with hm | hm
      · exact hd m hm
      · rw [List.mem_singleton.mp hm]; exact hb.mp cb
  · rintro σ H2 ⟨⟨y, rfl⟩, s2, hd⟩
    rw [htl.len, List.take_length] at hd
    walk_at "rd"
    exact k _ _ (s1.trans s2) ⟨fun _ => hd, fun _ => rfl⟩
end Shf

/-! recipes; law k10 -/
namespace Shf
open PySem L2
/-- steps that show a seating -/
def Recipe (n : Nat) (moves : List (List Nat)) (ss : List Stp) (a : List Nat) : Prop :=
  ∃ made : List (List Nat), ss.length = made.length ∧ (∀ i s, ss[i]? = some s → StpOk n moves made i s) ∧ (∀ x ∈ made, IsP n x) ∧ ∃ r, made = r ++ [a]
theorem LG.app {α : Type} {f : α → List V} {H : Hp} {vs ws : List V} {as bs : List α} (h : LG f H vs as) (h2 : LG f H ws bs) : LG f H (vs ++ ws) (as ++ bs) := by
  induction h with
  | nil => exact h2
  | cons h _ ih => exact .cons h ih
theorem w_irev {K : PySem.W.Frag} {σ : L2.St} {H : Hp} {ta : TA} {R : It → Hp → Prop} (h : ta σ H fun vs H1 => ∃ (a : Addr) (xs : List V), vs = [.ref a] ∧ SqL K H1 a xs ∧ R (Itv K a xs.length) H1) : iRev K ta σ H R := h
/-- at the step at the seating x stands; then a row of made ones one ahead of the other -/
structure Rcp (B : Bk) (moves : List (List Nat)) (w : List Nat) (ss : List Stp) (made : List (List Nat)) (at_ : Nat) (x : List Nat) : Prop where
  len : ss.length = made.length
  val : ∀ i s, ss[i]? = some s → StpOk B.n moves made i s
  mp : ∀ y ∈ made, IsP B.n y
  pm : B.made <+: made
  at_ : made[at_]? = some x
  sl : ss.length = B.steps.length + w.length
  la : w ≠ [] → ∃ r, made = r ++ [x]
  ex : x = w.foldl (fun x o => jn x (B.mk' o)) (List.range B.n)
section
variable {B : Bk} {moves : List (List Nat)}
theorem Rcp.start (h : BkOk B moves) : Rcp B moves [] B.steps B.made 0 (List.range B.n) := ⟨h.len, h.val, h.mp, List.prefix_refl _, h.m0, rfl, fun z => absurd rfl z, rfl⟩
theorem Rcp.step (h : BkOk B moves) {w : List Nat} {ss : List Stp} {made : List (List Nat)} {at_ : Nat} {x : List Nat} (r : Rcp B moves w ss made at_ x) {o : Nat} (ho : o < B.made.length) :
    Rcp B moves (w ++ [o]) (ss ++ [.thn at_ o]) (made ++ [jn x (B.mk' o)]) ss.length (jn x (B.mk' o)) := by
  have hat := (List.getElem?_eq_some_iff.mp r.at_).1
  have hox : o < made.length := Nat.lt_of_lt_of_le ho r.pm.length_le
  have ex : made.getD at_ [] = x := by rw [List.getD_eq_getElem?_getD, r.at_] <;> rfl
  have eo : made.getD o [] = B.mk' o := prefix_getD r.pm ho
  have px := r.mp x (List.mem_of_getElem? r.at_)
  have pj := isP_jn px (h.mkP ho)
  refine ⟨by rw [List.length_append, List.length_append, r.len] <;> rfl, fun i s hs => ?_, fun y hy => ?_, r.pm.trans (List.prefix_append _ _), ?_, ?_, fun _ => ⟨made, rfl⟩, ?_⟩
  · by_cases c : i < ss.length
    · rw [List.getElem?_append_left c] at hs
      exact (r.val i s hs).app (by rw [← r.len]; exact c)
    · have hi := (List.getElem?_eq_some_iff.mp hs).1
      rw [List.length_append] at hi
      have hi : i < ss.length + 1 := hi
      have e : i = ss.length := by omega
      subst e
      rw [List.getElem?_append_right (Nat.le_refl _), Nat.sub_self] at hs
      have : Stp.thn at_ o = s := Option.some.inj hs
      subst this
      refine ⟨by rw [r.len]; exact hat, by rw [r.len]; exact hox, ?_⟩
      rw [r.len, List.getElem?_append_right (Nat.le_refl _), Nat.sub_self, getD_app hat, getD_app hox, ex, eo] <;> rfl
  · rcases List.mem_append.mp hy with hy | hy
    · exact r.mp y hy
    · rw [List.mem_singleton.mp hy]; exact pj
  · rw [r.len, List.getElem?_append_right (Nat.le_refl _), Nat.sub_self] <;> rfl
  · rw [List.length_append, List.length_append, r.sl] <;> rfl
  · rw [List.foldl_append, ← r.ex] <;> rfl
/-- the way back through the table, turned about -/
theorem left_back (h : BkOk B moves) : ∀ (w : List Nat) (a : List Nat), IsP B.n a → (∀ o ∈ w, o < B.made.length) → leftOf B a w = List.range B.n → w.reverse.foldl (fun x o => jn x (B.mk' o)) (List.range B.n) = a
  | [], a, _, _, e => e.symm
  | o :: w, a, pa, hw, e => by
    have po := h.mkP (hw o List.mem_cons_self)
    have ih := left_back h w (jn a (trn (B.mk' o))) (isP_jn pa (isP_trn po)) (fun x hx => hw x (List.mem_cons_of_mem _ hx)) e
    rw [List.reverse_cons, List.foldl_append, ih]
    show jn (jn a (trn (B.mk' o))) (B.mk' o) = a
    rw [jn_assoc (fun x hx => by rw [trn_len, po.len]; exact pa.lt hx), trn_jn po, jn_id fun x hx => pa.lt hx]
end
def sp_Room_recipe (K : PySem.W.Frag) (g : Gd) : Sp := fun vs H Q E => ∃ (R : RA) (B : Bk) (moves : List (List Nat)) (q : Addr) (a : List Int), vs = [.ref R.r, .ref q] ∧ RoomAt g H R B moves ∧ H q = some (.tup (vI a)) ∧ a.length ≤ 1000 ∧ moves.length ≤ 200 ∧
  (SeatB a = false → E (.ref g.NoSeating) none H) ∧ (SeatB a = true → a.length ≠ B.n → E (.ref g.OtherSize) none H) ∧ ∀ m, a = m.map (fun (x : Nat) => (x : Int)) → IsP B.n m →
    (¬ Sifts B m → ∀ H', Same H H' → E (.ref g.Unreached) none H') ∧ (Sifts B m → ∀ r H' sv ss, Same H H' → H r = none → H' r = some (.lst sv) → LG stpV H' sv ss → Recipe B.n moves ss m → 1 ≤ ss.length → ss.length ≤ 5000 → Q (.ref r) H')
theorem len_Room_recipe (K : PySem.W.Frag) (g : Gd) (vs : List V) (H : Hp) (Q : VK) (E : XK) (h : sp_Room_recipe K g vs H Q E) : vs.length = 2 := by obtain ⟨_, _, _, _, _, rfl, _⟩ := h; rfl
--@facts Room.recipe r_Room r_Book
abbrev N_Room_recipe : List Str := ["self", "a", "found", "steps", "at", "one"]
/-- Room.recipe -/
def t_Room_recipe (K : PySem.W.Frag) (g : Gd) (E : XK) : TS :=
  (tSeq (tDrop (tMethS g.Room "ask" (sp_Room_ask K g) (WE (wE E)) (tVar 0) (tCons (tVar 1) tNil)))
    (tSeq (tAsg (tMethS g.Book "sifted" (sp_Book_sifted K g) (fun _ => E0) (tFld K (tVar 0) "book") (tCons (tVar 1) tNil)) (gName 2))
    (tSeq (tIfS (tTest (tOp rLtI (tOp (rIxT K) (tVar 2) (tC (.int 0))) (tFld K (tVar 0) "size"))) (tRaiseW (wE E) g.Unreached) tNext)
    (tSeq (tAsg (tCB (rListOf K) (tCons (tFld K (tFld K (tVar 0) "book") "steps") tNil)) (gName 3))
    (tSeq (tAsg (tC (.int 0)) (gName 4))
    (tSeq (tFor (iRev K (tCons (tOp (rIxT K) (tVar 2) (tC (.int 2))) tNil)) (gName 5) (tSeq (tDrop (tBM K "list" rAppend (tVar 3) (tCons (tTup (tCons (tC (.str "then")) (tCons (tVar 4) (tCons (tVar 5) tNil)))) tNil)))
    (tAsg (tOp rSubI (tCB (rLenQ K) (tCons (tVar 3) tNil)) (tC (.int 1))) (gName 4))))
    (tRet (tVar 3))))))))
theorem pure_Room_recipe {K : PySem.W.Frag} {g : Gd} (cR : RmC K g) (cB : BkC K g) (vs : List V) (H : Hp) (Q : VK) (E : XK) (h : sp_Room_recipe K g vs H Q E) : Rd1 (t_Room_recipe K g E) N_Room_recipe vs H Q := by
  obtain ⟨R, B, moves, q, a, rfl, hR, hq, hl, hml, e1, e2, k⟩ := h
  unfold t_Room_recipe
  walk_at "rd"
  refine hR.inst (by rfl) ?_
  walk_at "rd"
  refine ⟨R, B, moves, q, a, rfl, hR, sqT hq, hl, fun c => e1 c, fun c1 c2 => e2 c1 c2, fun ca cl => ?_⟩
  obtain ⟨m, pm, em, _, _⟩ := seatB_is ca
  rw [cl] at pm
  obtain ⟨k0, k1⟩ := k m em pm
  rw [em, ← vN_eq] at hq
  walk_at "rd"
  refine hR.f_book cR ?_
  refine hR.bk.inst (by rfl) ?_
  walk_at "rd"
  refine ⟨R.A, B, moves, m, q, rfl, hR.bk, hR.cl.ok, pm, hq, fun r ql w H1 s1 hr hr1 hql hw hw0 => ?_⟩
  have hR1 := hR.same s1
  have h16 := hR.n16
  have h01 := hR.n1
  walk_at "rd"
  refine ix_T (i := 0) (sqT hr1) rfl rfl ?_
  walk_at "rd"
  refine hR1.f_size cR ?_
  walk_at "rd"
  refine if_d (fun c => ?_) (fun c => ?_)
  · exact k0 (fun z => by unfold Sifts at z; omega) H1 s1
  obtain ⟨g1, g2, g3, g4, g5, g6⟩ := sift_spec hR.cl.ok pm
  have cs : Sifts B m := by unfold Sifts; omega
  have k1 := k1 cs
  have gl := sift_left B m
  have e9 : (B.sift m).1 = B.n := cs
  rw [e9] at g3 g5
  have hleft : leftOf B m (B.sift m).2.2 = List.range B.n := by rw [← gl]; exact Fix.id_of g2 g3
  have hback := left_back hR.cl.ok _ m pm g4 hleft
  generalize (B.sift m).2.2 = went at *
  have stb := hR.cl.ok.stb
  have kl := kept_le hR.cl.ok.pre
  have kl2 : B.kept.length * (2 * B.n) ≤ 120 * (2 * 16) := Nat.mul_le_mul kl (by omega)
  obtain ⟨sv, hsv, hsl⟩ := hR1.bk.st
  walk_at "rd"
  refine hR1.f_book cR ?_
  walk_at "rd"
  refine hR1.bk.f_steps cB ?_
  walk_at "rd"
  refine ⟨_, sv, rfl, .inl (sqL hsv), fun t ht => ?_⟩
  have s2 := (Same.refl H1).new (o := .lst sv) ht
  have ht0 : H t = none := s1.free ht
  have ht2 : (upd H1 t (.lst sv)) t = some (.lst sv) := upd_same
  have hsl2 := hsl.tu s2.tu
  have s12 := s1.trans s2
  have hr2 := s2 _ _ hr1
  have hw2 := s2 _ _ hw
  generalize upd H1 t (.lst sv) = H2 at *
  have htw : t ≠ w := fun z => by rw [← z] at hw; rw [ht] at hw; cases hw
  walk_at "rd"
  refine w_irev ?_
  walk_at "ex"
  refine ix_T (i := 2) (sqT hr2) rfl rfl ?_
  refine ⟨w, vN went, rfl, sqL hw2, RT.for_Itv (K := K) (a := w) (xs := vN went) (fun i σ H' => ∃ (tv : List V) (ss : List Stp) (made : List (List Nat)) (at_ : Nat) (x : List Nat) (y : Option V), σ = [some (.ref R.r), some (.ref q), some (.ref r), some (.ref t), some (.int (at_ : Int)), y] ∧ Same H H' ∧
    H' w = some (.lst (vN went)) ∧ H' t = some (.lst tv) ∧ LG stpV H' tv ss ∧ Rcp B moves (went.reverse.take i) ss made at_ x) ?_ ?_ ?_ ?_⟩
  · exact ⟨sv, B.steps, B.made, 0, _, none, rfl, s12, hw2, ht2, hsl2, Rcp.start hR.cl.ok⟩
  · rintro i σ H' ⟨tv, ss, made, at_, x, y, rfl, s', hw', _⟩
    exact sqL hw'
  · rintro i z σ H3 hi hz ⟨tv, ss, made, at_, x, y, rfl, s3, hw3, ht3, hl3, rc⟩
    rw [vN_len] at hi hz
    obtain ⟨o, ho, rfl⟩ := vN_get hz
    have ho' : went.reverse[i]? = some o := by rw [List.getElem?_reverse (by omega)]; exact ho
    have hol := g4 o (List.mem_of_getElem? ho)
    have rc2 := rc.step hR.cl.ok hol
    rw [← take_more ho'] at rc2
    have hsl := rc.sl
    rw [List.length_take] at hsl
    show tSeq _ _ _ (List.set _ 5 (some (V.int (o : Int)))) H3
    walk_at "rd"
    refine ⟨isL (sqL ht3), ?_⟩
    walk_at "rd"
    refine ⟨zl (by show 3 ≤ 100000; omega), fun p hp => ?_⟩
    have ht4 : (upd H3 p (.tup (stpV (.thn at_ o)))) t = some (.lst tv) := by rw [upd_ne (ne_of_none ht3 hp)]; exact ht3
    have hw4 : (upd H3 p (.tup (stpV (.thn at_ o)))) w = some (.lst (vN went)) := by rw [upd_ne (ne_of_none hw3 hp)]; exact hw3
    have hp4 : (upd H3 p (.tup (stpV (.thn at_ o)))) p = some (.tup (stpV (.thn at_ o))) := upd_same
    have tu4 : Tu H3 (upd H3 p (.tup (stpV (.thn at_ o)))) := ((Same.refl H3).new hp).tu
    have s4 : Same H (upd H3 p (.tup (stpV (.thn at_ o)))) := s3.new hp
    show tNil _ (upd H3 p (.tup (stpV (.thn at_ o)))) _
    generalize upd H3 p (.tup (stpV (.thn at_ o))) = H4 at *
    walk_at "rd"
    refine app_V ht4 (by rw [hl3.len]; omega) ?_
    have ht5 : (upd H4 t (.lst (tv ++ [.ref p]))) t = some (.lst (tv ++ [.ref p])) := upd_same
    have tu5 : Tu H4 (upd H4 t (.lst (tv ++ [.ref p]))) := fun b xs e => by rw [upd_ne (ne_of e ht4 fun z => by cases z)]; exact e
    have hl5 := ((hl3.tu tu4).tu tu5).snoc (a := Stp.thn at_ o) (tu5 _ _ hp4)
    walk_at "rd"
    refine len_L (sqL ht5) ?_
    rw [hl5.len]
    walk_at "rd"
    have e6 : ((ss ++ [Stp.thn at_ o]).length : Int) - 1 = (ss.length : Int) := by rw [List.length_append]; show ((ss.length + 1 : Nat) : Int) - 1 = _; omega
    rw [e6]
    exact ⟨_, _, _, ss.length, _, _, rfl, s4.up ht0, by rw [upd_ne htw.symm]; exact hw4, ht5, hl5, rc2⟩
  · rintro σ H3 ⟨tv, ss, made, at_, x, y, rfl, s3, hw3, ht3, hl3, rc⟩
    rw [vN_len, List.take_of_length_le (by rw [List.length_reverse]; exact Nat.le_refl _)] at rc
    have hx := rc.ex
    rw [hback] at hx
    subst hx
    have hsl := rc.sl
    rw [List.length_reverse] at hsl
    walk_at "rd"
    refine k1 t H3 tv ss s3 ht0 ht3 hl3 ⟨made, rc.len, rc.val, rc.mp, rc.la fun z => ?_⟩ (by omega) (by omega)
    have := congrArg List.length z
    rw [List.length_reverse] at this
    have this : went.length = 0 := this
    omega
theorem recipe_ok {K : PySem.W.Frag} {g : Gd} {H : Hp} {Q : VK} {E : XK} {R : RA} {B : Bk} {moves : List (List Nat)} {q : Addr} {a : List Nat} (hR : RoomAt g H R B moves) (hq : H q = some (.tup (vN a))) (pa : IsP B.n a) (hm : moves.length ≤ 200) (hs : Sifts B a)
    (k : ∀ r H' sv ss, Same H H' → H r = none → H' r = some (.lst sv) → LG stpV H' sv ss → Recipe B.n moves ss a → 1 ≤ ss.length → ss.length ≤ 5000 → Q (.ref r) H') : sp_Room_recipe K g [.ref R.r, .ref q] H Q E := by
  have h := hR.n16
  have hl : (a.map fun (x : Nat) => (x : Int)).length = B.n := by rw [List.length_map, pa.len]
  have ho := seatB_N pa hR.n1 hR.n16
  refine ⟨R, B, moves, q, _, rfl, hR, by rw [← vN_eq]; exact hq, by omega, hm, fun c => (by rw [ho] at c; cases c), fun _ c => absurd hl c, fun m em pm => ?_⟩
  rw [vInj] at em
  subst em
  exact ⟨fun c => absurd hs c, fun _ => k⟩
end Shf

/-! the table told; laws k11, k20 -/
namespace Shf
open PySem L2
/-- the keys of a row, rising -/
def keysOf (r : List (Nat × Nat)) : List Nat := (r.map (·.1)).mergeSort fun a b => decide (a ≤ b)
def tabRow (B : Bk) (k : Nat) : List (List Nat) := (keysOf (B.row k)).map fun j => B.mk' ((rowGet (B.row k) j).getD 0)
def tab (B : Bk) : List (List (List Nat)) := (List.range B.n).map (tabRow B)
theorem keysOf_perm (r : List (Nat × Nat)) : (keysOf r).Perm (r.map (·.1)) := List.mergeSort_perm _ _
theorem keysOf_le (r : List (Nat × Nat)) : (keysOf r).Pairwise (· ≤ ·) := by
  have := List.pairwise_mergeSort (le := fun a b : Nat => decide (a ≤ b)) (fun a b c h1 h2 => by simp only [decide_eq_true_eq] at h1 h2 ⊢; omega) (fun a b => by simp only [Bool.or_eq_true, decide_eq_true_eq]; omega) (r.map (·.1))
  exact this.imp fun h => of_decide_eq_true h
theorem keys_uniq {r : List (Nat × Nat)} {ns : List Int} (hp : ns.Perm (r.map fun p => (p.1 : Int))) (hs : ns.Pairwise (· ≤ ·)) : ns = (keysOf r).map fun (x : Nat) => (x : Int) := by
  refine List.Perm.eq_of_pairwise (le := fun a b : Int => a ≤ b) (fun a b _ _ h1 h2 => by omega) hs ?_ ?_
  · exact List.pairwise_map.mpr ((keysOf_le r).imp fun h => by show ((_ : Nat) : Int) ≤ ((_ : Nat) : Int); omega)
  · refine hp.trans ?_
    have := (keysOf_perm r).symm.map fun (x : Nat) => (x : Int)
    rw [List.map_map] at this
    exact this
section
variable {B : Bk} {moves : List (List Nat)}
theorem tab_len (B : Bk) : (tab B).length = B.n := by unfold tab; rw [List.length_map, List.length_range]
theorem tab_get {k : Nat} (hk : k < B.n) : (tab B)[k]? = some (tabRow B k) := by unfold tab; rw [List.getElem?_map, List.getElem?_range hk] <;> rfl
theorem tabRow_len (B : Bk) (k : Nat) : (tabRow B k).length = (B.row k).length := by unfold tabRow; rw [List.length_map, (keysOf_perm _).length_eq, List.length_map]
theorem tabRow_mem (h : BkOk B moves) {k : Nat} (hk : k < B.n) {x : List Nat} : x ∈ tabRow B k ↔ ∃ j i, rowGet (B.row k) j = some i ∧ x = B.mk' i := by
  unfold tabRow
  rw [List.mem_map]
  constructor
  · rintro ⟨j, hj, rfl⟩
    have hj := (keysOf_perm _).mem_iff.mp hj
    obtain ⟨p, hp, rfl⟩ := List.mem_map.mp hj
    have := rowGet_of (h.row k hk).nd (j := p.1) (i := p.2) hp
    exact ⟨p.1, p.2, this, by rw [this] <;> rfl⟩
  · rintro ⟨j, i, hg, rfl⟩
    refine ⟨j, (keysOf_perm _).mem_iff.mpr (List.mem_map.mpr ⟨_, rowGet_mem hg, rfl⟩), by rw [hg] <;> rfl⟩
theorem tabRow_at (h : BkOk B moves) {k i : Nat} (hk : k < B.n) {x : List Nat} (hx : (tabRow B k)[i]? = some x) : ∃ j m, (keysOf (B.row k))[i]? = some j ∧ rowGet (B.row k) j = some m ∧ x = B.mk' m ∧ x.getD k 0 = j ∧ IsP B.n x ∧ Fix k x := by
  unfold tabRow at hx
  rw [List.getElem?_map] at hx
  cases e : (keysOf (B.row k))[i]? with
  | none => rw [e] at hx; cases hx
  | some j =>
    rw [e] at hx
    have hj := (keysOf_perm _).mem_iff.mp (List.mem_of_getElem? e)
    obtain ⟨p, hp, rfl⟩ := List.mem_map.mp hj
    have hg := rowGet_of (h.row k hk).nd (j := p.1) (i := p.2) hp
    have en := (h.row k hk).en _ _ hp
    have hx : B.mk' ((rowGet (B.row k) p.1).getD 0) = x := Option.some.inj hx
    rw [hg] at hx
    subst hx
    exact ⟨p.1, p.2, rfl, hg, rfl, en.2.2.1, h.mkP en.1, en.2.1⟩
end
/-- a list of lists of tuples, its lists newer than a heap -/
inductive LL (H0 H : Hp) : List V → List (List (List Nat)) → Prop
  | nil : LL H0 H [] []
  | cons {p : Addr} {ws : List V} {ts : List (List Nat)} {vs : List V} {tss : List (List (List Nat))} : H p = some (.lst ws) → LT H ws ts → H0 p = none → LL H0 H vs tss → LL H0 H (.ref p :: vs) (ts :: tss)
section
variable {H0 H H' : Hp}
theorem LL.mono (s : Same H H') {vs : List V} {tss : List (List (List Nat))} (h : LL H0 H vs tss) : LL H0 H' vs tss := by
  induction h with
  | nil => exact .nil
  | cons h1 h2 h3 _ ih => exact .cons (s _ _ h1) (h2.mono s) h3 ih
theorem LL.but {F : List Addr} (b : But F H H') (n : ∀ a ∈ F, H0 a ≠ none) {vs : List V} {tss : List (List (List Nat))} (h : LL H0 H vs tss) : LL H0 H' vs tss := by
  induction h with
  | nil => exact .nil
  | cons h1 h2 h3 _ ih => exact .cons (b.s _ _ h1 fun z => n _ z h3) (h2.tu b.t) h3 ih
theorem LL.len {vs : List V} {tss : List (List (List Nat))} (h : LL H0 H vs tss) : vs.length = tss.length := by
  induction h with
  | nil => rfl
  | cons _ _ _ _ ih => simp [ih]
theorem LL.snoc {p : Addr} {ws : List V} {ts : List (List Nat)} (h1 : H p = some (.lst ws)) (h2 : LT H ws ts) (h3 : H0 p = none) {vs : List V} {tss : List (List (List Nat))} (h : LL H0 H vs tss) : LL H0 H (vs ++ [.ref p]) (tss ++ [ts]) := by
  induction h with
  | nil => exact .cons h1 h2 h3 .nil
  | cons a b c _ ih => exact .cons a b c ih
theorem LL.get {vs : List V} {tss : List (List (List Nat))} (h : LL H0 H vs tss) : ∀ {i : Nat} {ts : List (List Nat)}, tss[i]? = some ts → ∃ p ws, vs[i]? = some (.ref p) ∧ H p = some (.lst ws) ∧ LT H ws ts ∧ H0 p = none := by
  induction h with
  | nil => intro i a e; simp at e
  | cons h1 h2 h3 _ ih =>
    intro i a e
    cases i with
    | zero => cases e; exact ⟨_, _, rfl, h1, h2, h3⟩
    | succ i => exact ih (by simpa using e)
theorem LL.get' {vs : List V} {tss : List (List (List Nat))} (h : LL H0 H vs tss) : ∀ {i : Nat} {v : V}, vs[i]? = some v → ∃ p ws ts, v = .ref p ∧ tss[i]? = some ts ∧ H p = some (.lst ws) ∧ LT H ws ts ∧ H0 p = none := by
  induction h with
  | nil => intro i a e; simp at e
  | cons h1 h2 h3 _ ih =>
    intro i a e
    cases i with
    | zero => cases e; exact ⟨_, _, _, rfl, rfl, h1, h2, h3⟩
    | succ i => exact ih (by simpa using e)
/-- what is told, a list in which the lists lie, changes alone -/
theorem LL.out {l : Addr} {ws : List V} {o : HO} (hl : H l = some (.lst ws)) (n : ∀ (i : Nat) (v : V), (vs : List V) → vs[i]? = some v → True) {vs : List V} {tss : List (List (List Nat))} (h : LL H0 H vs tss) (hn : (.ref l : V) ∉ vs) : LL H0 (L2.upd H l o) vs tss := by
  induction h with
  | nil => exact .nil
  | @cons p ws ts vs tss h1 h2 h3 _ ih =>
    have hn1 : p ≠ l := fun z => hn (by rw [z]; exact List.mem_cons_self)
    exact .cons (by rw [upd_ne hn1]; exact h1) (h2.upL hl) h3 (ih fun z => hn (List.mem_cons_of_mem _ z))
theorem LL.fresh {vs : List V} {tss : List (List (List Nat))} (h : LL H0 H vs tss) {l : Addr} (hl : H l = none) : (.ref l : V) ∉ vs := fun z => by
  obtain ⟨i, hi, e⟩ := List.getElem_of_mem z
  obtain ⟨p, ws, ts, ep, _, h1, _⟩ := h.get' (i := i) (v := .ref l) (by rw [List.getElem?_eq_getElem hi, e])
  cases ep
  rw [hl] at h1; cases h1
end
def NewLL (H : Hp) (tss : List (List (List Nat))) (Q : VK) : Prop := ∀ (r : Addr) (H' : Hp) (vs : List V), Same H H' → H r = none → H' r = some (.lst vs) → LL H H' vs tss → (.ref r : V) ∉ vs → vs.Nodup → Q (.ref r) H'
def sp_Room_table (K : PySem.W.Frag) (g : Gd) : Sp := fun vs H Q _ => ∃ (R : RA) (B : Bk) (moves : List (List Nat)), vs = [.ref R.r] ∧ RoomAt g H R B moves ∧ NewLL H (tab B) Q
theorem len_Room_table (K : PySem.W.Frag) (g : Gd) (vs : List V) (H : Hp) (Q : VK) (E : XK) (h : sp_Room_table K g vs H Q E) : vs.length = 1 := by obtain ⟨_, _, _, rfl, _⟩ := h; rfl
--@facts Room.table r_Room r_Book
abbrev N_Room_table : List Str := ["self", "rows", "row", "k"]
/-- Room.table -/
def t_Room_table (K : PySem.W.Frag) (g : Gd) (E : XK) : TS :=
  (tSeq (tAsg (tLst tNil) (gName 1))
    (tSeq (tFor (iList K (tFld K (tFld K (tVar 0) "book") "rows")) (gName 2) (tDrop (tBM K "list" rAppend (tVar 1) (tCons (tLc (iList K (tCB (rSortedI K) (tCons (tCB rListD (tCons (tVar 2) tNil)) tNil))) (gName 3) tYes (tOp (rIxL K) (tFld K (tFld K (tVar 0) "book") "made") (tDGet (tVar 2) (tVar 3))) [3]) tNil))))
    (tRet (tVar 1))))
theorem pure_Room_table {K : PySem.W.Frag} {g : Gd} (cR : RmC K g) (cB : BkC K g) (vs : List V) (H : Hp) (Q : VK) (E : XK) (h : sp_Room_table K g vs H Q E) : Rd1 (t_Room_table K g E) N_Room_table vs H Q := by
  obtain ⟨R, B, moves, rfl, hR, k⟩ := h
  have h16 := hR.n16
  have ok := hR.cl.ok
  unfold t_Room_table
  walk_at "rd"
  refine ⟨zl (Nat.zero_le _), fun t ht => ?_⟩
  have s1 := (Same.refl H).new (o := .lst []) ht
  have ht1 : (upd H t (.lst [])) t = some (.lst []) := upd_same
  generalize upd H t (.lst []) = H1 at *
  have hR1 := hR.same s1
  walk_at "rd"
  refine hR1.f_book cR ?_
  walk_at "rd"
  refine hR1.bk.f_rows cB ?_
  refine ⟨R.A.lr, rfl, ⟨_, sqL hR1.bk.rw⟩, for_list (K := K) (a := R.A.lr) (xs := R.A.ds.map V.ref) (fun i σ H' => ∃ (vs : List V) (y : Option V), σ = [some (.ref R.r), some (.ref t), y, none] ∧ Same H H' ∧ H' t = some (.lst vs) ∧ LL H H' vs ((tab B).take i) ∧ (.ref t : V) ∉ vs ∧ vs.Nodup) ?_ ?_ ?_ ?_⟩
  · exact ⟨[], none, rfl, s1, ht1, by rw [List.take_zero]; exact .nil, by simp, List.nodup_nil⟩
  · rintro i σ H' _ ⟨_, _, _, s, _⟩; exact sqL ((hR.same s).bk.rw)
  · rintro i z σ H2 hz ⟨vs, y, rfl, s2, ht2, hll, hnt, hnd⟩
    rw [List.getElem?_map] at hz
    cases ed : R.A.ds[i]? with
    | none => rw [ed] at hz; cases hz
    | some d =>
      rw [ed] at hz
      cases hz
      have hi : i < B.n := by
        have := (List.getElem?_eq_some_iff.mp ed).1
        rw [hR.bk.dl] at this
        exact this
      have hR2 := hR.same s2
      have hd := hR2.bk.ro i d ed
      have hrow := row_len ok.pre (k := i) hi
      show tDrop _ _ (List.set _ 2 (some (V.ref d))) _
      walk_at "rd"
      refine ⟨isL (sqL ht2), ?_⟩
      walk_at "rd"
      refine w_lc (w_ilist ?_)
      walk_at "ex"
      refine ⟨d, _, rfl, hd, fun q hq => ?_⟩
      have ek : (rowV (B.row i)).map (fun kv => kV kv.1) = vI ((B.row i).map fun p => (p.1 : Int)) := by
        unfold rowV
        show _ = ((B.row i).map _).map _
        rw [List.map_map, List.map_map] <;> rfl
      rw [ek]
      have s3 := (Same.refl H2).new (o := .lst (vI ((B.row i).map fun p => (p.1 : Int)))) hq
      have hq3 : (upd H2 q (.lst (vI ((B.row i).map fun p => (p.1 : Int))))) q = some (.lst (vI ((B.row i).map fun p => (p.1 : Int)))) := upd_same
      generalize upd H2 q (.lst (vI ((B.row i).map fun p => (p.1 : Int)))) = H3 at *
      refine ⟨q, _, rfl, sqL hq3, fun ns p hperm hpw hp => ?_⟩
      rw [keys_uniq hperm hpw]
      have en : (((keysOf (B.row i)).map fun (x : Nat) => (x : Int)).map V.int) = vN (keysOf (B.row i)) := (vN_eq _).symm
      rw [en]
      have s4 := s3.new (o := .lst (vN (keysOf (B.row i)))) hp
      have hp4 : (upd H3 p (.lst (vN (keysOf (B.row i))))) p = some (.lst (vN (keysOf (B.row i)))) := upd_same
      generalize upd H3 p (.lst (vN (keysOf (B.row i)))) = H4 at *
      refine ⟨p, rfl, ⟨_, sqL hp4⟩, fun D hD => lc_list (K := K) (a := p) (xs := vN (keysOf (B.row i))) (fun m H' => Same H4 H' ∧ ∃ ws, H' D = some (.lst ws) ∧ LT H' ws ((tabRow B i).take m)) ?_ ?_ ?_ ?_⟩
      · exact ⟨(Same.refl _).new hD, [], upd_same, by rw [List.take_zero]; exact .nil⟩
      · rintro m H' _ ⟨s, _⟩; exact sqL (s _ _ hp4)
      · rintro m z H5 hz ⟨s5, ws, hw, hwl⟩
        obtain ⟨j, hj, rfl⟩ := vN_get hz
        have hjm := (keysOf_perm _).mem_iff.mp (List.mem_of_getElem? hj)
        obtain ⟨pp, hpp, ej⟩ := List.mem_map.mp hjm
        have hg : rowGet (B.row i) j = some pp.2 := rowGet_of (ok.row i hi).nd (by rw [← ej]; exact hpp)
        have en := (ok.row i hi).en _ _ hpp
        have s25 := s4.trans s5
        have hR5 := hR2.same s25
        refine ⟨rfl, ?_⟩
        walk_at "ex"
        refine hR5.f_book cR ?_
        walk_at "ex"
        refine hR5.bk.f_made cB ?_
        walk_at "ex"
        have hd5 := s25 _ _ hd
        have hdg : DGet H5 d (V.int (j : Int)) (some (V.int (pp.2 : Int))) := by
          have := DGet.k hd5 (k := Sum.inl (j : Int))
          rw [rowV_get, hg] at this
          exact this
        refine ⟨d, _, rfl, hdg, ?_⟩
        refine hR5.bk.ix_made en.1 rfl fun u hu => ?_
        have hm : (tabRow B i)[m]? = some (B.mk' pp.2) := by
          unfold tabRow
          rw [List.getElem?_map, hj]
          show some (B.mk' ((rowGet (B.row i) j).getD 0)) = _
          rw [hg] <;> rfl
        have hml := (List.getElem?_eq_some_iff.mp hm).1
        rw [tabRow_len] at hml
        refine ⟨ws, hw, by rw [hwl.len, List.length_take, tabRow_len]; exact zlt (by omega), s5.up hD, _, upd_same, ?_⟩
        rw [take_more hm]
        exact (hwl.upL hw).snoc (by rw [upd_ne (ne_of hu hw fun z => by cases z)]; exact hu)
      · rintro H5 ⟨s5, ws, hw, hwl⟩
        rw [vN_len, show (keysOf (B.row i)).length = (tabRow B i).length by rw [tabRow_len, (keysOf_perm _).length_eq, List.length_map], List.take_length] at hwl
        have s25 := s4.trans s5
        have ht5 := s25 _ _ ht2
        walk_at "rd"
        have hvl := hll.len
        rw [List.length_take, tab_len] at hvl
        refine app_V ht5 (by omega) ?_
        walk_at "rd"
        have hD2 : H2 D = none := s4.free hD
        have hDn : (.ref D : V) ∉ vs := hll.fresh hD2
        have hDt : D ≠ t := fun z => by rw [z] at hD2; rw [ht2] at hD2; cases hD2
        have hL5 := hll.mono s25
        refine ⟨vs ++ [.ref D], some (.ref d), rfl, (s2.trans s25).up ht, upd_same, ?_, ?_, ?_⟩
        · rw [take_more (tab_get hi)]
          refine LL.snoc ?_ (hwl.upL ht5) (s2.free hD2) (LL.out ht5 (fun _ _ _ _ => trivial) hL5 hnt)
          rw [upd_ne hDt]; exact hw
        · rw [List.mem_append, not_or]
          exact ⟨hnt, fun z => hDt (by have := List.mem_singleton.mp z; cases this; rfl)⟩
        · refine List.nodup_append.mpr ⟨hnd, by simp, fun a ha b hb e => ?_⟩
          rw [List.mem_singleton.mp hb] at e
          rw [e] at ha
          exact hDn ha
  · rintro σ H2 ⟨vs, y, rfl, s2, ht2, hll, hnt, hnd⟩
    rw [List.length_map, hR.bk.dl, ← tab_len B, List.take_length] at hll
    walk_at "rd"
    exact k t H2 vs s2 ht ht2 hll hnt hnd
end Shf

/-! numbers of seatings: mathematics alone -/
namespace Shf
open PySem L2
/-- a seating ahead of another, place by place -/
def LexLt (a b : List Nat) : Prop := ∃ k, k < a.length ∧ (∀ t, t < k → a.getD t 0 = b.getD t 0) ∧ a.getD k 0 < b.getD k 0
theorem LexLt.irrefl {a : List Nat} : ¬ LexLt a a := fun ⟨_, _, _, h⟩ => Nat.lt_irrefl _ h
theorem LexLt.asymm {a b : List Nat} (h : a.length = b.length) (x : LexLt a b) (y : LexLt b a) : False := by
  obtain ⟨k, k1, k2, k3⟩ := x
  obtain ⟨l, l1, l2, l3⟩ := y
  rcases Nat.lt_trichotomy k l with c | c | c
  · have := l2 k c; omega
  · subst c; omega
  · have := k2 l c; omega
theorem LexLt.trans {a b c : List Nat} (hab : a.length = b.length) (x : LexLt a b) (y : LexLt b c) : LexLt a c := by
  obtain ⟨k, k1, k2, k3⟩ := x
  obtain ⟨l, l1, l2, l3⟩ := y
  rcases Nat.lt_trichotomy k l with z | z | z
  · exact ⟨k, k1, fun t ht => (k2 t ht).trans (l2 t (by omega)), by rw [← l2 k z]; exact k3⟩
  · subst z; exact ⟨k, k1, fun t ht => (k2 t ht).trans (l2 t ht), by omega⟩
  · exact ⟨l, by omega, fun t ht => (k2 t (by omega)).trans (l2 t ht), by rw [k2 l z]; exact l3⟩
/-- the places of a row: where its entries send the seat in the end, with their steps, rising -/
def plcU (B : Bk) (k : Nat) (A : List Nat) : List (Nat × Nat) := (B.row k).map fun p => (A.getD p.1 0, p.2)
def plc (B : Bk) (k : Nat) (A : List Nat) : List (Nat × Nat) := (plcU B k A).mergeSort fun a b => decide (a.1 ≤ b.1)
def enumK (B : Bk) : Nat → Nat → List Nat → List (List Nat)
  | 0, _, A => [A]
  | f + 1, k, A => (plc B k A).flatMap fun p => enumK B f (k + 1) (jn (B.mk' p.2) A)
def enumB (B : Bk) : List (List Nat) := enumK B B.n 0 (List.range B.n)
def numF (B : Bk) : Nat → Nat → Nat → List Nat → List Nat
  | 0, _, _, A => A
  | f + 1, k, n, A => numF B f (k + 1) (n % belowK B f (k + 1)) (jn (B.mk' ((plc B k A).getD (n / belowK B f (k + 1)) (0, 0)).2) A)
/-- which entry of a row sends the seat there in the end -/
def pickR (r : List (Nat × Nat)) (A : List Nat) (v : Nat) : Option Nat := (r.find? fun p => decide (A.getD p.1 0 = v)).map (·.2)
def cntR (r : List (Nat × Nat)) (A : List Nat) (v : Nat) : Nat := (r.filter fun p => decide (A.getD p.1 0 < v)).length
def numO (B : Bk) : Nat → Nat → List Nat → List Nat → Option Nat
  | 0, _, _, _ => some 0
  | f + 1, k, A, a => match pickR (B.row k) A (a.getD k 0) with
    | none => none
    | some i => (numO B f (k + 1) (jn (B.mk' i) A) a).map fun t => cntR (B.row k) A (a.getD k 0) * belowK B f (k + 1) + t
section
variable {B : Bk} {moves : List (List Nat)}
theorem plc_perm (B : Bk) (k : Nat) (A : List Nat) : (plc B k A).Perm (plcU B k A) := List.mergeSort_perm _ _
theorem plc_le (B : Bk) (k : Nat) (A : List Nat) : (plc B k A).Pairwise fun a b => a.1 ≤ b.1 := by
  have := List.pairwise_mergeSort (le := fun a b : Nat × Nat => decide (a.1 ≤ b.1)) (fun a b c h1 h2 => by simp only [decide_eq_true_eq] at h1 h2 ⊢; omega) (fun a b => by simp only [Bool.or_eq_true, decide_eq_true_eq]; omega) (plcU B k A)
  exact this.imp fun h => of_decide_eq_true h
theorem plcU_nd (h : BkOk B moves) {k : Nat} (hk : k < B.n) {A : List Nat} (pA : IsP B.n A) : ((plcU B k A).map (·.1)).Nodup := by
  unfold plcU
  rw [List.map_map]
  have nd := (h.row k hk).nd
  have lt : ∀ p ∈ B.row k, p.1 < B.n := fun p hp => by
    have en := (h.row k hk).en p.1 p.2 hp
    rw [← en.2.2.1]
    exact (h.mkP en.1).getD_lt hk
  revert nd lt
  generalize B.row k = r
  intro nd lt
  induction r with
  | nil => exact List.nodup_nil
  | cons p r ih =>
    have nd : (p.1 :: r.map (·.1)).Nodup := nd
    obtain ⟨n1, n2⟩ := List.nodup_cons.mp nd
    refine List.nodup_cons.mpr ⟨fun z => ?_, ih n2 fun q hq => lt q (List.mem_cons_of_mem _ hq)⟩
    obtain ⟨q, hq, e⟩ := List.mem_map.mp z
    have e : A.getD q.1 0 = A.getD p.1 0 := e
    have := nd_getD pA.nd (by rw [pA.len]; exact lt q (List.mem_cons_of_mem _ hq)) (by rw [pA.len]; exact lt p List.mem_cons_self) e
    exact n1 (by rw [← this]; exact List.mem_map.mpr ⟨q, hq, rfl⟩)
theorem plc_nd (h : BkOk B moves) {k : Nat} (hk : k < B.n) {A : List Nat} (pA : IsP B.n A) : ((plc B k A).map (·.1)).Nodup := ((plc_perm B k A).map (·.1)).nodup_iff.mpr (plcU_nd h hk pA)
theorem plc_lt (h : BkOk B moves) {k : Nat} (hk : k < B.n) {A : List Nat} (pA : IsP B.n A) : (plc B k A).Pairwise fun a b => a.1 < b.1 := by
  have h1 := plc_le B k A
  have h2 := List.pairwise_map.mp (plc_nd h hk pA)
  exact (List.pairwise_and_iff.mpr ⟨h1, h2⟩).imp fun ⟨a, b⟩ => by omega
theorem nd_fst {l : List (Nat × Nat)} (nd : (l.map (·.1)).Nodup) {a b : Nat × Nat} (ha : a ∈ l) (hb : b ∈ l) (e : a.1 = b.1) : a = b := by
  induction l with
  | nil => cases ha
  | cons c l ih =>
    have nd : (c.1 :: l.map (·.1)).Nodup := nd
    obtain ⟨n1, n2⟩ := List.nodup_cons.mp nd
    rcases List.mem_cons.mp ha with ha | ha
    · rcases List.mem_cons.mp hb with hb | hb
      · rw [ha, hb]
      · exact absurd (List.mem_map.mpr ⟨b, hb, by rw [← e, ha]⟩) n1
    · rcases List.mem_cons.mp hb with hb | hb
      · exact absurd (List.mem_map.mpr ⟨a, ha, by rw [e, hb]⟩) n1
      · exact ih n2 ha hb
/-- what sorting makes is just that -/
theorem plc_uniq (h : BkOk B moves) {k : Nat} (hk : k < B.n) {A : List Nat} (pA : IsP B.n A) {ys : List (Nat × Nat)} (hp : ys.Perm (plcU B k A)) (hs : ys.Pairwise fun a b => a.1 ≤ b.1) : ys = plc B k A := by
  have nd := plcU_nd h hk pA
  refine List.Perm.eq_of_pairwise (le := fun a b : Nat × Nat => a.1 ≤ b.1) (fun a b ha hb h1 h2 => ?_) hs (plc_le B k A) (hp.trans (plc_perm B k A).symm)
  exact nd_fst nd (hp.mem_iff.mp ha) ((plc_perm B k A).mem_iff.mp hb) (by omega)
theorem plc_len (B : Bk) (k : Nat) (A : List Nat) : (plc B k A).length = (B.row k).length := by rw [(plc_perm B k A).length_eq]; exact List.length_map ..
theorem plc_mem {k : Nat} {A : List Nat} {v i : Nat} : (v, i) ∈ plc B k A ↔ ∃ j, (j, i) ∈ B.row k ∧ A.getD j 0 = v := by
  rw [(plc_perm B k A).mem_iff]
  unfold plcU
  rw [List.mem_map]
  constructor
  · rintro ⟨p, hp, e⟩
    have e1 : A.getD p.1 0 = v := congrArg Prod.fst e
    have e2 : p.2 = i := congrArg Prod.snd e
    exact ⟨p.1, by rw [← e2]; exact hp, e1⟩
  · rintro ⟨j, hj, e⟩
    exact ⟨(j, i), hj, by rw [← e]⟩
theorem enumK_len (B : Bk) : ∀ f k A, (enumK B f k A).length = belowK B f k
  | 0, _, _ => rfl
  | f + 1, k, A => by
    show ((plc B k A).flatMap _).length = (B.row k).length * belowK B f (k + 1)
    rw [← plc_len B k A]
    generalize plc B k A = r
    induction r with
    | nil => rw [List.length_nil, Nat.zero_mul] <;> rfl
    | cons p r ih => rw [List.flatMap_cons, List.length_append, ih, enumK_len B f (k + 1), List.length_cons, Nat.add_mul, Nat.one_mul, Nat.add_comm]
theorem flat_get {α β : Type} {f : α → List β} {b : Nat} : ∀ {l : List α}, (∀ x ∈ l, (f x).length = b) → ∀ {i t : Nat} {x : α}, l[i]? = some x → t < b → (l.flatMap f)[i * b + t]? = (f x)[t]?
  | [], _, i, t, x, h, _ => by simp at h
  | y :: l, hl, i, t, x, h, ht => by
    rw [List.flatMap_cons]
    have hy := hl y List.mem_cons_self
    cases i with
    | zero =>
      have : y = x := by simpa using h
      subst this
      rw [Nat.zero_mul, Nat.zero_add, List.getElem?_append_left (by omega)]
    | succ i =>
      rw [Nat.add_mul, Nat.one_mul, List.getElem?_append_right (by omega), hy]
      have e : i * b + b + t - b = i * b + t := by omega
      rw [e]
      exact flat_get (fun z hz => hl z (List.mem_cons_of_mem _ hz)) (by simpa using h) ht
theorem entry_P (h : BkOk B moves) {k : Nat} (hk : k < B.n) {A : List Nat} {p : Nat × Nat} (hp : p ∈ plc B k A) : IsP B.n (B.mk' p.2) := by
  obtain ⟨j, hj, _⟩ := (plc_mem (v := p.1) (i := p.2)).mp hp
  exact h.mkP ((h.row k hk).en _ _ hj).1
/-- the seating of a number stands at its place -/
theorem numF_get (h : BkOk B moves) : ∀ (f k n : Nat) (A : List Nat), k + f = B.n → n < belowK B f k → (enumK B f k A)[n]? = some (numF B f k n A)
  | 0, k, n, A, _, hn => by
    have hn : n < 1 := hn
    obtain rfl : n = 0 := by omega
    rfl
  | f + 1, k, n, A, e, hn => by
    have hn : n < (B.row k).length * belowK B f (k + 1) := hn
    have b0 : 0 < belowK B f (k + 1) := belowK_pos h.pre f (k + 1) (by omega)
    have hq : n / belowK B f (k + 1) < (plc B k A).length := by rw [plc_len]; exact Nat.div_lt_of_lt_mul (by rw [Nat.mul_comm]; exact hn)
    have hr : n % belowK B f (k + 1) < belowK B f (k + 1) := Nat.mod_lt _ b0
    have e1 : n = n / belowK B f (k + 1) * belowK B f (k + 1) + n % belowK B f (k + 1) := by rw [Nat.mul_comm]; exact (Nat.div_add_mod n _).symm
    have e2 : (plc B k A)[n / belowK B f (k + 1)]? = some ((plc B k A).getD (n / belowK B f (k + 1)) (0, 0)) := by rw [List.getD_eq_getElem?_getD, List.getElem?_eq_getElem hq] <;> rfl
    show ((plc B k A).flatMap fun p => enumK B f (k + 1) (jn (B.mk' p.2) A))[n]? = _
    have := flat_get (f := fun p : Nat × Nat => enumK B f (k + 1) (jn (B.mk' p.2) A)) (b := belowK B f (k + 1)) (l := plc B k A) (fun x _ => enumK_len B f (k + 1) _) e2 hr
    rw [← e1] at this
    rw [this]
    exact numF_get h f (k + 1) _ _ (by omega) hr
theorem enumK_mem (h : BkOk B moves) : ∀ (f k : Nat) (A : List Nat), k + f = B.n → IsP B.n A → ∀ x, x ∈ enumK B f k A ↔ ∃ b, Sk B k b ∧ x = jn b A
  | 0, k, A, e, pA, x => by
    obtain rfl : k = B.n := by omega
    constructor
    · intro m
      have m : x = A := List.mem_singleton.mp m
      exact ⟨_, .last, by rw [m, id_jnP pA]⟩
    · rintro ⟨b, s, rfl⟩
      have : b = List.range B.n := Fix.id_of (s.isP h) (s.fix h)
      rw [this, id_jnP pA]
      exact List.mem_singleton.mpr rfl
  | f + 1, k, A, e, pA, x => by
    have hk : k < B.n := by omega
    show x ∈ (plc B k A).flatMap _ ↔ _
    rw [List.mem_flatMap]
    constructor
    · rintro ⟨p, hp, hx⟩
      have pm := entry_P h hk hp
      obtain ⟨b, s, rfl⟩ := (enumK_mem h f (k + 1) _ (by omega) (isP_jn pm pA) x).mp hx
      obtain ⟨j, hj, _⟩ := (plc_mem (v := p.1) (i := p.2)).mp hp
      refine ⟨_, .step hk (rowGet_of (h.row k hk).nd hj) s, ?_⟩
      rw [jn_assocP (s.isP h) pm]
    · rintro ⟨b, s, rfl⟩
      cases s with
      | last => omega
      | @step _ j i c _ hg s =>
        have pm := h.mkP ((h.row k hk).en _ _ (rowGet_mem hg)).1
        refine ⟨(A.getD j 0, i), plc_mem.mpr ⟨j, rowGet_mem hg, rfl⟩, (enumK_mem h f (k + 1) _ (by omega) (isP_jn pm pA) _).mpr ⟨c, s, ?_⟩⟩
        rw [jn_assocP (s.isP h) pm]
/-- they rise -/
theorem enumK_lex (h : BkOk B moves) : ∀ (f k : Nat) (A : List Nat), k + f = B.n → IsP B.n A → (enumK B f k A).Pairwise LexLt
  | 0, k, A, _, _ => List.pairwise_singleton _ _
  | f + 1, k, A, e, pA => by
    have hk : k < B.n := by omega
    -- what stands within a block
    have blk : ∀ p ∈ plc B k A, ∀ x ∈ enumK B f (k + 1) (jn (B.mk' p.2) A), IsP B.n x ∧ (∀ t, t < k → x.getD t 0 = A.getD t 0) ∧ x.getD k 0 = p.1 := by
      intro p hp x hx
      have pm := entry_P h hk hp
      obtain ⟨b, s, rfl⟩ := (enumK_mem h f (k + 1) _ (by omega) (isP_jn pm pA) x).mp hx
      obtain ⟨j, hj, ej⟩ := (plc_mem (v := p.1) (i := p.2)).mp hp
      have en := (h.row k hk).en _ _ hj
      have pb := s.isP h
      have fb := s.fix h
      have at_ : ∀ t, t < k + 1 → (jn b (jn (B.mk' p.2) A)).getD t 0 = A.getD ((B.mk' p.2).getD t 0) 0 := fun t ht => by
        rw [jn_get (by rw [pb.len]; omega), fb t ht, jn_get (by rw [pm.len]; omega)]
      refine ⟨isP_jn pb (isP_jn pm pA), fun t ht => ?_, ?_⟩
      · rw [at_ t (by omega)]
        show A.getD ((B.made.getD p.2 []).getD t 0) 0 = _
        rw [en.2.1 t ht]
      · rw [at_ k (by omega)]
        show A.getD ((B.made.getD p.2 []).getD k 0) 0 = _
        rw [en.2.2.1, ej]
    have ih := fun p (hp : p ∈ plc B k A) => enumK_lex h f (k + 1) (jn (B.mk' p.2) A) (by omega) (isP_jn (entry_P h hk hp) pA)
    have srt := plc_lt h hk pA
    show ((plc B k A).flatMap fun p => enumK B f (k + 1) (jn (B.mk' p.2) A)).Pairwise LexLt
    revert blk ih srt
    generalize plc B k A = r
    intro blk ih srt
    induction r with
    | nil => exact List.Pairwise.nil
    | cons p r ihr =>
      obtain ⟨r1, r2⟩ := List.pairwise_cons.mp srt
      rw [List.flatMap_cons]
      refine List.pairwise_append.mpr ⟨ih p List.mem_cons_self, ihr (fun q hq => blk q (List.mem_cons_of_mem _ hq)) (fun q hq => ih q (List.mem_cons_of_mem _ hq)) r2, fun x hx y hy => ?_⟩
      obtain ⟨q, hq, hy⟩ := List.mem_flatMap.mp hy
      obtain ⟨x1, x2, x3⟩ := blk p List.mem_cons_self x hx
      obtain ⟨y1, y2, y3⟩ := blk q (List.mem_cons_of_mem _ hq) y hy
      refine ⟨k, by rw [x1.len]; exact hk, fun t ht => (x2 t ht).trans (y2 t ht).symm, ?_⟩
      rw [x3, y3]
      exact r1 q hq
theorem enumB_lex (h : BkOk B moves) : (enumB B).Pairwise LexLt := enumK_lex h B.n 0 _ (by omega) (isP_id _)
theorem enumB_mem (h : BkOk B moves) (x : List Nat) : x ∈ enumB B ↔ Sk B 0 x := by
  unfold enumB
  rw [enumK_mem h B.n 0 _ (by omega) (isP_id _)]
  constructor
  · rintro ⟨b, s, rfl⟩; rw [jn_idP (s.isP h)]; exact s
  · intro s; exact ⟨x, s, (jn_idP (s.isP h)).symm⟩
theorem enumB_nd (h : BkOk B moves) : (enumB B).Nodup := (enumB_lex h).imp fun hlt e => by subst e; exact hlt.irrefl
/-- the entry that is picked -/
theorem pickR_some {r : List (Nat × Nat)} {A : List Nat} {v i : Nat} (h : pickR r A v = some i) : ∃ j, (j, i) ∈ r ∧ A.getD j 0 = v := by
  unfold pickR at h
  cases e : r.find? (fun p => decide (A.getD p.1 0 = v)) with
  | none => rw [e] at h; cases h
  | some p =>
    rw [e] at h
    have h1 := List.find?_some e
    have h2 := List.mem_of_find?_eq_some e
    have h3 : p.2 = i := Option.some.inj h
    exact ⟨p.1, by rw [← h3]; exact h2, of_decide_eq_true h1⟩
theorem pickR_of {r : List (Nat × Nat)} {A : List Nat} {v j i : Nat} (h : (j, i) ∈ r) (e : A.getD j 0 = v) : (pickR r A v).isSome = true := by
  unfold pickR
  rw [Option.isSome_map]
  exact List.find?_isSome.mpr ⟨_, h, decide_eq_true e⟩
/-- where an entry stands in the sorted places -/
theorem sorted_at : ∀ {l : List (Nat × Nat)}, (l.Pairwise fun a b => a.1 < b.1) → ∀ {p : Nat × Nat}, p ∈ l → l[(l.filter fun q => decide (q.1 < p.1)).length]? = some p
  | [], _, p, h => by cases h
  | q :: l, hs, p, h => by
    obtain ⟨h1, h2⟩ := List.pairwise_cons.mp hs
    rcases List.mem_cons.mp h with e | h
    · subst e
      have e0 : ((p :: l).filter fun q => decide (q.1 < p.1)) = [] := by
        rw [List.filter_eq_nil_iff]
        intro a ha
        rcases List.mem_cons.mp ha with ha | ha
        · rw [ha]; simp
        · have := h1 a ha; simp; omega
      rw [e0] <;> rfl
    · have := h1 p h
      rw [List.filter_cons_of_pos (by simpa using this), List.length_cons]
      rw [List.getElem?_cons_succ]
      exact sorted_at h2 h
theorem cnt_plc {k : Nat} {A : List Nat} (v : Nat) : ((plc B k A).filter fun q => decide (q.1 < v)).length = cntR (B.row k) A v := by
  rw [((plc_perm B k A).filter _).length_eq]
  unfold plcU cntR
  rw [List.filter_map, List.length_map] <;> rfl
/-- a number that is told is the place -/
theorem numO_get (h : BkOk B moves) : ∀ (f k : Nat) (A a : List Nat), k + f = B.n → IsP B.n A → a.length = B.n → (∀ t, t < k → a.getD t 0 = A.getD t 0) → ∀ {t : Nat}, numO B f k A a = some t → (enumK B f k A)[t]? = some a ∧ t < belowK B f k
  | 0, k, A, a, e, pA, la, hpre, t, ht => by
    obtain rfl : k = B.n := by omega
    have ht : 0 = t := Option.some.inj ht
    subst ht
    have : A = a := ext_getD (by rw [pA.len, la]) fun i hi => (hpre i (by rw [← pA.len]; exact hi)).symm
    exact ⟨by rw [← this] <;> rfl, Nat.zero_lt_one⟩
  | f + 1, k, A, a, e, pA, la, hpre, t, ht => by
    have hk : k < B.n := by omega
    unfold numO at ht
    cases c : pickR (B.row k) A (a.getD k 0) with
    | none => rw [c] at ht; cases ht
    | some i =>
      rw [c] at ht
      have ht : (numO B f (k + 1) (jn (B.mk' i) A) a).map (fun t => cntR (B.row k) A (a.getD k 0) * belowK B f (k + 1) + t) = some t := ht
      obtain ⟨j, hj, ej⟩ := pickR_some c
      have en := (h.row k hk).en _ _ hj
      have pm := h.mkP en.1
      have pA2 := isP_jn pm pA
      cases c2 : numO B f (k + 1) (jn (B.mk' i) A) a with
      | none => rw [c2] at ht; cases ht
      | some t' =>
        rw [c2] at ht
        have ht : cntR (B.row k) A (a.getD k 0) * belowK B f (k + 1) + t' = t := Option.some.inj ht
        have hpre2 : ∀ t, t < k + 1 → a.getD t 0 = (jn (B.mk' i) A).getD t 0 := fun t ht => by
          rw [jn_get (by rw [pm.len]; omega)]
          by_cases ct : t = k
          · subst ct
            show _ = A.getD ((B.made.getD i []).getD t 0) 0
            rw [en.2.2.1, ej]
          · show _ = A.getD ((B.made.getD i []).getD t 0) 0
            rw [en.2.1 t (by omega)]
            exact hpre t (by omega)
        obtain ⟨g1, g2⟩ := numO_get h f (k + 1) _ a (by omega) pA2 la hpre2 c2
        have hp : (a.getD k 0, i) ∈ plc B k A := plc_mem.mpr ⟨j, hj, ej⟩
        have at_ := sorted_at (plc_lt h hk pA) hp
        have at_ : (plc B k A)[cntR (B.row k) A (a.getD k 0)]? = some (a.getD k 0, i) := by rw [← cnt_plc]; exact at_
        have hc := (List.getElem?_eq_some_iff.mp at_).1
        rw [plc_len] at hc
        have := flat_get (f := fun p : Nat × Nat => enumK B f (k + 1) (jn (B.mk' p.2) A)) (b := belowK B f (k + 1)) (l := plc B k A) (fun x _ => enumK_len B f (k + 1) _) at_ g2
        rw [ht] at this
        refine ⟨this.trans g1, ?_⟩
        show t < (B.row k).length * belowK B f (k + 1)
        have : (cntR (B.row k) A (a.getD k 0) + 1) * belowK B f (k + 1) ≤ (B.row k).length * belowK B f (k + 1) := Nat.mul_le_mul_right _ hc
        rw [Nat.add_mul, Nat.one_mul] at this
        omega
theorem numO_some (h : BkOk B moves) : ∀ (f k : Nat) (A b : List Nat), k + f = B.n → IsP B.n A → Sk B k b → (numO B f k A (jn b A)).isSome = true
  | 0, _, _, _, _, _, _ => rfl
  | f + 1, k, A, b, e, pA, s => by
    have hk : k < B.n := by omega
    cases s with
    | last => omega
    | @step _ j i c _ hg s =>
      have en := (h.row k hk).en _ _ (rowGet_mem hg)
      have pm := h.mkP en.1
      have pc := s.isP h
      have ek : (jn (jn c (B.mk' i)) A).getD k 0 = A.getD j 0 := by
        rw [jn_get (by rw [jn_len, pc.len]; exact hk), s.at h hk hg]
      have hs := pickR_of (r := B.row k) (A := A) (rowGet_mem hg) ek.symm
      unfold numO
      cases c2 : pickR (B.row k) A ((jn (jn c (B.mk' i)) A).getD k 0) with
      | none => rw [c2] at hs; cases hs
      | some i' =>
        obtain ⟨j', hj', ej'⟩ := pickR_some c2
        have hj2 : j' = j := by
          rw [ek] at ej'
          have l1 : j' < B.n := by
            have en' := (h.row k hk).en _ _ hj'
            rw [← en'.2.2.1]; exact (h.mkP en'.1).getD_lt hk
          have l2 : j < B.n := by rw [← en.2.2.1]; exact pm.getD_lt hk
          exact nd_getD pA.nd (by rw [pA.len]; exact l1) (by rw [pA.len]; exact l2) ej'
        have hi2 : i' = i := by
          have := rowGet_of (h.row k hk).nd hj'
          rw [hj2, hg] at this
          exact (Option.some.inj this).symm
        subst hi2
        show ((numO B f (k + 1) (jn (B.mk' i') A) (jn (jn c (B.mk' i')) A)).map _).isSome = true
        rw [Option.isSome_map, jn_assocP pc pm]
        exact numO_some h f (k + 1) _ c (by omega) (isP_jn pm pA) s
/-- the number of a seating -/
def numB (B : Bk) (a : List Nat) : Option Nat := numO B B.n 0 (List.range B.n) a
theorem numB_iff (h : BkOk B moves) {a : List Nat} (pa : IsP B.n a) (t : Nat) : numB B a = some t ↔ (enumB B)[t]? = some a := by
  constructor
  · intro e
    exact (numO_get h B.n 0 _ a (by omega) (isP_id _) pa.len (fun t ht => absurd ht (Nat.not_lt_zero t)) e).1
  · intro e
    have s := (enumB_mem h a).mp (List.mem_of_getElem? e)
    have hs := numO_some h B.n 0 _ a (by omega) (isP_id _) s
    rw [jn_idP pa] at hs
    have hs : (numB B a).isSome = true := hs
    cases c : numB B a with
    | none => rw [c] at hs; cases hs
    | some t' =>
      have e' := (numO_get h B.n 0 _ a (by omega) (isP_id _) pa.len (fun t ht => absurd ht (Nat.not_lt_zero t)) c).1
      obtain ⟨l1, e1⟩ := List.getElem?_eq_some_iff.mp e
      obtain ⟨l2, e2⟩ := List.getElem?_eq_some_iff.mp e'
      have nd := List.pairwise_iff_getElem.mp (enumB_nd h)
      have : t' = t := by
        rcases Nat.lt_trichotomy t' t with z | z | z
        · exact absurd (e2.trans e1.symm) (nd _ _ l2 l1 z)
        · exact z
        · exact absurd (e1.trans e2.symm) (nd _ _ l1 l2 z)
      rw [this]
theorem numB_none (h : BkOk B moves) {a : List Nat} (pa : IsP B.n a) : numB B a = none ↔ ¬ Sifts B a := by
  rw [sifts_sk h pa, ← enumB_mem h]
  constructor
  · intro e hm
    obtain ⟨t, ht, et⟩ := List.getElem_of_mem hm
    have := (numB_iff h pa t).mpr (by rw [List.getElem?_eq_getElem ht, et])
    rw [e] at this; cases this
  · intro hn
    cases c : numB B a with
    | none => rfl
    | some t => exact absurd (List.mem_of_getElem? ((numB_iff h pa t).mp c)) hn
theorem enumB_len (h : BkOk B moves) : (enumB B).length = manyB B := by unfold enumB; rw [enumK_len, many_eq h.rl]
theorem belowK_le (h : BkPre B moves) : ∀ (f k : Nat), k + f = B.n → belowK B f k ≤ 16 ^ f
  | 0, _, _ => Nat.le_refl _
  | f + 1, k, e => by
    have h1 := row_len h (k := k) (by omega)
    have h2 := h.h2
    show (B.row k).length * belowK B f (k + 1) ≤ 16 ^ (f + 1)
    rw [Nat.pow_succ, Nat.mul_comm]
    exact Nat.mul_le_mul (belowK_le h f (k + 1) (by omega)) (by omega)
theorem many_lt (h : BkPre B moves) : manyB B < 18446744073709551616 := by
  obtain ⟨f, hf⟩ : ∃ f, B.n = f + 1 := ⟨B.n - 1, by have := h.h1; omega⟩
  rw [many_eq h.rl, hf]
  have h1 := row_len h (k := 0) (by have := h.h1; omega)
  have h2 := h.h2
  have h3 := belowK_le h f 1 (by omega)
  show (B.row 0).length * belowK B f 1 < _
  have h4 : 16 ^ f ≤ 16 ^ 15 := Nat.pow_le_pow_right (by decide) (by omega)
  have h5 : (B.row 0).length * belowK B f 1 ≤ 16 * 16 ^ 15 := by
    by_cases c : B.n = 16
    · exact Nat.mul_le_mul (by omega) (by omega)
    · exact Nat.mul_le_mul (by omega) (by omega)
  by_cases c : (B.row 0).length ≤ 15
  · have h6 : (B.row 0).length * belowK B f 1 ≤ 15 * 16 ^ 15 := Nat.mul_le_mul c (by omega)
    have : 15 * 16 ^ 15 < 18446744073709551616 := by decide
    omega
  · -- the second row has at most fifteen
    obtain ⟨f', rfl⟩ : ∃ f', f = f' + 1 := ⟨f - 1, by omega⟩
    have h7 := row_len h (k := 1) (by omega)
    have h8 := belowK_le h f' 2 (by omega)
    have h9 : 16 ^ f' ≤ 16 ^ 14 := Nat.pow_le_pow_right (by decide) (by omega)
    have h10 : belowK B (f' + 1) 1 ≤ 15 * 16 ^ 14 := by
      show (B.row 1).length * belowK B f' 2 ≤ _
      exact Nat.mul_le_mul (by omega) (by omega)
    have h11 : (B.row 0).length * belowK B (f' + 1) 1 ≤ 16 * (15 * 16 ^ 14) := Nat.mul_le_mul (by omega) h10
    have : 16 * (15 * 16 ^ 14) < 18446744073709551616 := by decide
    omega
end
end Shf

/-! the seating of a number, the number of a seating: walked; law k12 -/
namespace Shf
open PySem L2
/-- the pair that a tuple holds -/
def prOf (H : Hp) : V → Int × Int
  | .ref t => match H t with
    | some (.tup [.int a, .int b]) => (a, b)
    | _ => (0, 0)
  | _ => (0, 0)
theorem LG.pr {H : Hp} {vs : List V} {ps : List (Nat × Nat)} (h : LG prV H vs ps) : (∀ x ∈ vs, ∃ t, x = V.ref t ∧ H t = some (.tup [.int (prOf H x).1, .int (prOf H x).2])) ∧ vs.map (fun x => ((prOf H x).1.toNat, (prOf H x).2.toNat)) = ps := by
  induction h with
  | nil => exact ⟨fun x hx => (by cases hx), rfl⟩
  | @cons p a vs as hp _ ih =>
    have e : prOf H (.ref p) = ((a.1 : Int), (a.2 : Int)) := by
      show (match H p with | some (.tup [.int a, .int b]) => (a, b) | _ => (0, 0)) = _
      rw [hp] <;> rfl
    refine ⟨fun x hx => ?_, ?_⟩
    · rcases List.mem_cons.mp hx with hx | hx
      · rw [hx, e]; exact ⟨p, rfl, hp⟩
      · exact ih.1 x hx
    · rw [List.map_cons, ih.2, e] <;> rfl
theorem LG.of_pr {H : Hp} : ∀ {vs : List V}, (∀ x ∈ vs, ∃ (t : Addr) (a b : Nat), x = V.ref t ∧ H t = some (.tup [.int (a : Int), .int (b : Int)])) → LG prV H vs (vs.map fun x => ((prOf H x).1.toNat, (prOf H x).2.toNat))
  | [], _ => .nil
  | x :: vs, h => by
    obtain ⟨t, a, b, rfl, ht⟩ := h x List.mem_cons_self
    have e : prOf H (.ref t) = ((a : Int), (b : Int)) := by
      show (match H t with | some (.tup [.int a, .int b]) => (a, b) | _ => (0, 0)) = _
      rw [ht] <;> rfl
    rw [List.map_cons, e]
    exact .cons ht (LG.of_pr fun y hy => h y (List.mem_cons_of_mem _ hy))
theorem sort_pl {B : Bk} {moves : List (List Nat)} (ok : BkOk B moves) {k : Nat} (hk : k < B.n) {A : List Nat} (pA : IsP B.n A) {H : Hp} {xs ys : List V} (h : LG prV H xs (plcU B k A)) (hs : SrtO.Srtd (ltP (prOf H)) ys) (hb : SrtO.Stb (ltP (prOf H)) ys xs) : LG prV H ys (plc B k A) := by
  obtain ⟨h1, h2⟩ := h.pr
  have hmem : ∀ x ∈ ys, ∃ (t : Addr) (a b : Nat), x = V.ref t ∧ H t = some (.tup [.int (a : Int), .int (b : Int)]) := fun x hx => by
    have hx := hb.perm.mem_iff.mp hx
    obtain ⟨i, hi, e⟩ := List.getElem_of_mem hx
    obtain ⟨p, a, ep, _, hp⟩ := h.get' (i := i) (v := x) (by rw [List.getElem?_eq_getElem hi, e])
    exact ⟨p, a.1, a.2, ep, hp⟩
  have l := LG.of_pr hmem
  have : ys.map (fun x => ((prOf H x).1.toNat, (prOf H x).2.toNat)) = plc B k A := by
    refine plc_uniq ok hk pA ?_ ?_
    · rw [← h2]; exact hb.perm.map _
    · refine List.pairwise_map.mpr (hs.imp fun {x y} hxy => ?_)
      have := SrtO.lexB_no.mp hxy
      show (prOf H x).1.toNat ≤ (prOf H y).1.toNat
      omega
  rw [← this]
  exact l
def sp_Room_numbered (K : PySem.W.Frag) (g : Gd) : Sp := fun vs H Q E => ∃ (R : RA) (B : Bk) (moves : List (List Nat)) (z : Int), vs = [.ref R.r, .int z] ∧ RoomAt g H R B moves ∧ (¬ (0 ≤ z ∧ z < (manyB B : Int)) → E (.ref g.NoNumber) none H) ∧
  ∀ (t : Nat) (a : List Nat), z = (t : Int) → (enumB B)[t]? = some a → NewT H a Q
theorem len_Room_numbered (K : PySem.W.Frag) (g : Gd) (vs : List V) (H : Hp) (Q : VK) (E : XK) (h : sp_Room_numbered K g vs H Q E) : vs.length = 2 := by obtain ⟨_, _, _, _, rfl, _⟩ := h; rfl
--@facts Room.numbered r_Room r_Book
abbrev N_Room_numbered : List Str := ["self", "n", "below", "ahead", "row", "places", "pick", "k"]
/-- Room.numbered -/
def t_Room_numbered (K : PySem.W.Frag) (g : Gd) (E : XK) : TS :=
  (tSeq (tAsg (tMethS g.Room "how_many" (sp_Room_how_many K g) (fun _ => E0) (tVar 0) tNil) (gName 2))
    (tSeq (tIfS (tOr (tTest (tOp rLtI (tVar 1) (tC (.int 0)))) (tTest (tOp rGeI (tVar 1) (tVar 2)))) (tRaiseW (wE E) g.NoNumber) tNext)
    (tSeq (tAsg (tCallS (sp_rest K g) (WE (wE E)) (tCons (tFld K (tVar 0) "size") tNil)) (gName 3))
    (tSeq (tFor (iList K (tFld K (tFld K (tVar 0) "book") "rows")) (gName 4) (tSeq (tAsg (tOp rDivI (tVar 2) (tCB rLenDk (tCons (tVar 4) tNil))) (gName 2))
    (tSeq (tAsg (tCB (rSortedPO K) (tCons (tLc (iList K (tCB rListD (tCons (tVar 4) tNil))) (gName 7) tYes (tTup (tCons (tOp (rIxT K) (tVar 3) (tVar 7)) (tCons (tDGet (tVar 4) (tVar 7)) tNil))) [7]) tNil)) (gName 5))
    (tSeq (tAsg (tOp (rIxT K) (tOp (rIxL K) (tVar 5) (tOp rDivI (tVar 1) (tVar 2))) (tC (.int 1))) (gName 6))
    (tSeq (tAsg (tOp rModI (tVar 1) (tVar 2)) (gName 1))
    (tAsg (tCallS (sp_joined K g) (fun _ => E0) (tCons (tOp (rIxL K) (tFld K (tFld K (tVar 0) "book") "made") (tVar 6)) (tCons (tVar 3) tNil))) (gName 3)))))))
    (tRet (tVar 3))))))
theorem pure_Room_numbered {K : PySem.W.Frag} {g : Gd} (cR : RmC K g) (cB : BkC K g) (vs : List V) (H : Hp) (Q : VK) (E : XK) (h : sp_Room_numbered K g vs H Q E) : Rd1 (t_Room_numbered K g E) N_Room_numbered vs H Q := by
  obtain ⟨R, B, moves, z, rfl, hR, e1, k⟩ := h
  have ok := hR.cl.ok
  have h16 := ok.h2
  have h01 := ok.h1
  have hmany := many_lt ok.pre
  unfold t_Room_numbered
  walk_at "rd"
  refine hR.inst (by rfl) ?_
  walk_at "rd"
  refine ⟨R, B, moves, rfl, hR, ?_⟩
  walk_at "re"
  walk_at "sq"
  walk_at "st"
  refine w_orP (b := decide (z < 0)) (c := decide ((manyB B : Int) ≤ z)) (fun R' r => ?_) (fun R' r => ?_) ?_
  · walk_at "ex"
    exact r
  · walk_at "ex"
    exact r
  refine if_b (fun c => ?_) (fun c => ?_)
  · refine e1 fun zz => ?_
    rw [decide_eq_false (by omega), decide_eq_false (by omega)] at c
    cases c
  have hz0 : 0 ≤ z := by
    refine Decidable.byContradiction fun q => ?_
    rw [decide_eq_true (by omega)] at c
    cases c
  have hz1 : z < (manyB B : Int) := by
    refine Decidable.byContradiction fun q => ?_
    rw [decide_eq_true (p := (manyB B : Int) ≤ z) (by omega), Bool.or_true] at c
    cases c
  obtain ⟨t, rfl⟩ : ∃ t : Nat, z = (t : Int) := ⟨z.toNat, by omega⟩
  have ht : t < manyB B := by omega
  rw [many_eq ok.rl] at ht
  have hfin := numF_get ok B.n 0 t (List.range B.n) (by omega) ht
  have k := k t _ rfl hfin
  walk_at "rd"
  refine hR.f_size cR ?_
  walk_at "rd"
  refine ⟨_, rfl, fun _ q0 H1 s1 hq0 hq01 => ?_, fun c => absurd (by omega) c⟩
  rw [show ((B.n : Int)).toNat = B.n from Int.toNat_natCast _] at hq01
  have hR1 := hR.same s1
  walk_at "rd"
  refine hR1.f_book cR ?_
  walk_at "rd"
  refine hR1.bk.f_rows cB ?_
  rw [many_eq ok.rl]
  refine ⟨R.A.lr, rfl, ⟨_, sqL hR1.bk.rw⟩, for_list (K := K) (a := R.A.lr) (xs := R.A.ds.map V.ref) (fun i σ H' => ∃ (n : Nat) (q : Addr) (A : List Nat) (y1 y2 y3 : Option V), i ≤ B.n ∧ σ = [some (.ref R.r), some (.int (n : Int)), some (.int (belowK B (B.n - i) i : Int)), some (.ref q), y1, y2, y3, none] ∧ Same H H' ∧ H q = none ∧ H' q = some (.tup (vN A)) ∧ IsP B.n A ∧ n < belowK B (B.n - i) i ∧ numF B (B.n - i) i n A = numF B B.n 0 t (List.range B.n)) ?_ ?_ ?_ ?_⟩
  · exact ⟨t, q0, _, none, none, none, Nat.zero_le _, rfl, s1, hq0, hq01, isP_id _, ht, rfl⟩
  · rintro i σ H' _ ⟨_, _, _, _, _, _, _, _, s, _⟩; exact sqL ((hR.same s).bk.rw)
  · rintro i x σ H2 hx ⟨n, q, A, y1, y2, y3, _, rfl, s2, hq, hq2, pA, hn, hnum⟩
    rw [List.getElem?_map] at hx
    cases ed : R.A.ds[i]? with
    | none => rw [ed] at hx; cases hx
    | some d =>
      rw [ed] at hx
      cases hx
      have hi : i < B.n := by
        have := (List.getElem?_eq_some_iff.mp ed).1
        rw [hR.bk.dl] at this
        exact this
      have hR2 := hR.same s2
      have hd := hR2.bk.ro i d ed
      have hrow := row_len ok.pre (k := i) hi
      have hrow1 := List.length_pos_of_mem (ok.row i hi).hd
      have ef : B.n - i = (B.n - (i + 1)) + 1 := by omega
      rw [ef] at hn hnum
      have hn : n < (B.row i).length * belowK B (B.n - (i + 1)) (i + 1) := hn
      have eb : (belowK B (B.n - i) i : Int) / ((B.row i).length : Int) = (belowK B (B.n - (i + 1)) (i + 1) : Int) := by
        rw [ef]
        show (((B.row i).length * belowK B (B.n - (i + 1)) (i + 1) : Nat) : Int) / _ = _
        rw [Int.natCast_mul, Int.mul_ediv_cancel_left _ (by omega)]
      have b0 : 0 < belowK B (B.n - (i + 1)) (i + 1) := belowK_pos ok.pre _ _ (by omega)
      have bm : belowK B (B.n - (i + 1)) (i + 1) < 18446744073709551616 := by
        have h1 := many_below ok.rl (B.n - (i + 1)) (i + 1) (by omega)
        have : 0 < manyTo B (i + 1) := Nat.pos_of_ne_zero fun z => by
          rw [z, Nat.zero_mul] at h1
          rw [many_eq ok.rl] at h1
          have := belowK_pos ok.pre B.n 0 (by omega)
          omega
        have := Nat.le_mul_of_pos_left (belowK B (B.n - (i + 1)) (i + 1)) this
        omega
      show tSeq _ _ _ (List.set _ 4 (some (V.ref d))) _
      walk_at "rd"
      refine ⟨d, _, rfl, hd, ?_⟩
      rw [rowV_len]
      refine div_I (by omega) (by omega) ?_
      rw [eb]
      walk_at "rd"
      refine w_lc (w_ilist ?_)
      walk_at "ex"
      refine ⟨d, _, rfl, hd, fun l hl => ?_⟩
      have ek : (rowV (B.row i)).map (fun kv => kV kv.1) = vN ((B.row i).map (·.1)) := by
        unfold rowV
        show _ = ((B.row i).map _).map _
        rw [List.map_map, List.map_map] <;> rfl
      rw [ek]
      have s3 := (Same.refl H2).new (o := .lst (vN ((B.row i).map (·.1)))) hl
      have hl3 : (upd H2 l (.lst (vN ((B.row i).map (·.1))))) l = some (.lst (vN ((B.row i).map (·.1)))) := upd_same
      generalize upd H2 l (.lst (vN ((B.row i).map (·.1)))) = H3 at *
      refine ⟨l, rfl, ⟨_, sqL hl3⟩, fun D hD => lc_list (K := K) (a := l) (xs := vN ((B.row i).map (·.1))) (fun m H' => Same H3 H' ∧ ∃ ws, H' D = some (.lst ws) ∧ LG prV H' ws ((plcU B i A).take m)) ?_ ?_ ?_ ?_⟩
      · exact ⟨(Same.refl _).new hD, [], upd_same, by rw [List.take_zero]; exact .nil⟩
      · rintro m H' _ ⟨s, _⟩; exact sqL (s _ _ hl3)
      · rintro m x H4 hx ⟨s4, ws, hw, hwl⟩
        obtain ⟨j, hj, rfl⟩ := vN_get hx
        rw [List.getElem?_map] at hj
        cases ep : (B.row i)[m]? with
        | none => rw [ep] at hj; cases hj
        | some p =>
          rw [ep] at hj
          have hj : p.1 = j := Option.some.inj hj
          have hpm := List.mem_of_getElem? ep
          have en := (ok.row i hi).en p.1 p.2 hpm
          have hjl : j < B.n := by rw [← hj, ← en.2.2.1]; exact (ok.mkP en.1).getD_lt hi
          have hg : rowGet (B.row i) j = some p.2 := rowGet_of (ok.row i hi).nd (by rw [← hj]; exact hpm)
          have s24 := s3.trans s4
          have hq4 := s24 _ _ hq2
          have hd4 := s24 _ _ hd
          have hdg : DGet H4 d (V.int (j : Int)) (some (V.int (p.2 : Int))) := by
            have := DGet.k hd4 (k := Sum.inl (j : Int))
            rw [rowV_get, hg] at this
            exact this
          refine ⟨rfl, ?_⟩
          walk_at "ex"
          refine ix_TN (i := j) (sqT hq4) (by rw [pA.len]; exact hjl) rfl ?_
          walk_at "ex"
          refine ⟨d, _, rfl, hdg, ?_⟩
          walk_at "ex"
          refine ⟨zl (by show 2 ≤ 100000; decide), fun u hu => ?_⟩
          have hw5 : (upd H4 u (.tup (prV (A.getD j 0, p.2)))) D = some (.lst ws) := by rw [upd_ne (ne_of_none hw hu)]; exact hw
          have hm : (plcU B i A)[m]? = some (A.getD j 0, p.2) := by
            unfold plcU
            rw [List.getElem?_map, ep, ← hj] <;> rfl
          have hml := (List.getElem?_eq_some_iff.mp hm).1
          have hul : (plcU B i A).length = (B.row i).length := List.length_map ..
          refine ⟨ws, hw5, by rw [hwl.len, List.length_take]; exact zlt (by omega), (s4.new hu).up hD, _, upd_same, ?_⟩
          rw [take_more hm]
          have tu : Tu H4 (upd (upd H4 u (.tup (prV (A.getD j 0, p.2)))) D (.lst (ws ++ [.ref u]))) := fun a xs e => by
            rw [upd_ne (ne_of e hw fun z => by cases z), upd_ne (ne_of_none e hu)]; exact e
          refine (hwl.tu tu).snoc ?_
          rw [upd_ne (ne_of_none hw hu).symm]
          exact upd_same
      · rintro H4 ⟨s4, ws, hw, hwl⟩
        rw [vN_len, show ((B.row i).map (·.1)).length = (plcU B i A).length by unfold plcU; rw [List.length_map, List.length_map], List.take_length] at hwl
        have s24 := s3.trans s4
        walk_at "rd"
        refine ⟨D, ws, prOf H4, rfl, sqL hw, hwl.pr.1, fun ys pp hsr hst hpp => ?_⟩
        have hys := sort_pl ok hi pA hwl hsr hst
        have s5 := (Same.refl H4).new (o := .lst ys) hpp
        have hy5 : (upd H4 pp (.lst ys)) pp = some (.lst ys) := upd_same
        generalize upd H4 pp (.lst ys) = H5 at *
        have hys5 := hys.tu s5.tu
        have s25 := s24.trans s5
        have hqi : n / belowK B (B.n - (i + 1)) (i + 1) < (plc B i A).length := by rw [plc_len]; exact Nat.div_lt_of_lt_mul (by rw [Nat.mul_comm]; exact hn)
        have e2 : (plc B i A)[n / belowK B (B.n - (i + 1)) (i + 1)]? = some ((plc B i A).getD (n / belowK B (B.n - (i + 1)) (i + 1)) (0, 0)) := by rw [List.getD_eq_getElem?_getD, List.getElem?_eq_getElem hqi] <;> rfl
        obtain ⟨u, hu, hu5⟩ := hys5.get e2
        have pm := entry_P ok hi (List.mem_of_getElem? e2)
        obtain ⟨j, hj, _⟩ := (plc_mem (v := ((plc B i A).getD (n / belowK B (B.n - (i + 1)) (i + 1)) (0, 0)).1) (i := ((plc B i A).getD (n / belowK B (B.n - (i + 1)) (i + 1)) (0, 0)).2)).mp (List.mem_of_getElem? e2)
        have hml := ((ok.row i hi).en _ _ hj).1
        walk_at "rd"
        refine div_I (by omega) (by omega) ?_
        refine ix_L (i := n / belowK B (B.n - (i + 1)) (i + 1)) (sqL hy5) hu (by rw [Int.natCast_ediv]) ?_
        walk_at "rd"
        refine ix_T (i := 1) (sqT hu5) rfl rfl ?_
        walk_at "rd"
        refine mod_I (by omega) ?_
        have hR5 := hR2.same s25
        have hq5 := s25 _ _ hq2
        walk_at "rd"
        refine hR5.f_book cR ?_
        walk_at "rd"
        refine hR5.bk.f_made cB ?_
        walk_at "rd"
        refine hR5.bk.ix_made hml rfl fun w hw5 => ?_
        walk_at "rd"
        refine ⟨w, q, _, A, rfl, sqT hw5, sqT hq5, by rw [pm.len]; omega, fun z hz => by rw [pA.len]; exact pm.lt hz, fun v H6 s6 hv hv6 => ?_⟩
        walk_at "rd"
        have s06 := s2.trans (s25.trans s6)
        have er : (n : Int) % (belowK B (B.n - (i + 1)) (i + 1) : Int) = ((n % belowK B (B.n - (i + 1)) (i + 1) : Nat) : Int) := by rw [Int.natCast_emod]
        rw [er]
        refine ⟨_, v, _, _, _, _, hi, rfl, s06, (s2.trans s25).free hv, hv6, isP_jn pm pA, Nat.mod_lt _ b0, hnum⟩
  · rintro σ H2 ⟨n, q, A, y1, y2, y3, _, rfl, s2, hq, hq2, pA, hn, hnum⟩
    rw [List.length_map, hR.bk.dl, Nat.sub_self] at hnum
    walk_at "rd"
    have hA : A = numF B B.n 0 t (List.range B.n) := hnum
    exact k q H2 s2 hq (by rw [← hA]; exact hq2)
end Shf

/-! the number of a seating, walked; law k12 -/
namespace Shf
open PySem L2
theorem cntR_snoc {r : List (Nat × Nat)} {p : Nat × Nat} {A : List Nat} {v : Nat} : cntR (r ++ [p]) A v = cntR r A v + if A.getD p.1 0 < v then 1 else 0 := by
  unfold cntR
  rw [List.filter_append, List.length_append]
  by_cases c : A.getD p.1 0 < v
  · rw [if_pos c, List.filter_cons_of_pos (by simpa using c)] <;> rfl
  · rw [if_neg c, List.filter_cons_of_neg (by simpa using c)] <;> rfl
def sp_Room_number_of (K : PySem.W.Frag) (g : Gd) : Sp := fun vs H Q E => ∃ (R : RA) (B : Bk) (moves : List (List Nat)) (q : Addr) (a : List Int), vs = [.ref R.r, .ref q] ∧ RoomAt g H R B moves ∧ H q = some (.tup (vI a)) ∧ a.length ≤ 1000 ∧
  (SeatB a = false → E (.ref g.NoSeating) none H) ∧ (SeatB a = true → a.length ≠ B.n → E (.ref g.OtherSize) none H) ∧ ∀ m, a = m.map (fun (x : Nat) => (x : Int)) → IsP B.n m →
    (¬ Sifts B m → ∀ H', Same H H' → E (.ref g.Unreached) none H') ∧ (∀ t : Nat, (enumB B)[t]? = some m → ∀ H', Same H H' → Q (.int (t : Int)) H')
theorem len_Room_number_of (K : PySem.W.Frag) (g : Gd) (vs : List V) (H : Hp) (Q : VK) (E : XK) (h : sp_Room_number_of K g vs H Q E) : vs.length = 2 := by obtain ⟨_, _, _, _, _, rfl, _⟩ := h; rfl
--@facts Room.number_of r_Room r_Book
abbrev N_Room_number_of : List Str := ["self", "a", "below", "ahead", "total", "place", "row", "pick", "k"]
/-- Room.number_of -/
def t_Room_number_of (K : PySem.W.Frag) (g : Gd) (E : XK) : TS :=
  (tSeq (tDrop (tMethS g.Room "ask" (sp_Room_ask K g) (WE (wE E)) (tVar 0) (tCons (tVar 1) tNil)))
    (tSeq (tAsg (tMethS g.Room "how_many" (sp_Room_how_many K g) (fun _ => E0) (tVar 0) tNil) (gName 2))
    (tSeq (tAsg (tCallS (sp_rest K g) (WE (wE E)) (tCons (tFld K (tVar 0) "size") tNil)) (gName 3))
    (tSeq (tAsg (tC (.int 0)) (gName 4))
    (tSeq (tAsg (tC (.int 0)) (gName 5))
    (tSeq (tFor (iList K (tFld K (tFld K (tVar 0) "book") "rows")) (gName 6) (tSeq (tAsg (tOp rDivI (tVar 2) (tCB rLenDk (tCons (tVar 6) tNil))) (gName 2))
    (tSeq (tAsg (tC .non) (gName 7))
    (tSeq (tFor (iList K (tCB rListD (tCons (tVar 6) tNil))) (gName 8) (tSeq (tIfS (tTest (tOp rLtI (tOp (rIxT K) (tVar 3) (tVar 8)) (tOp (rIxT K) (tVar 1) (tVar 5)))) (tAsg (tOp rAddI (tVar 4) (tVar 2)) (gName 4)) tNext)
    (tIfS (tTest (tOp rEq (tOp (rIxT K) (tVar 3) (tVar 8)) (tOp (rIxT K) (tVar 1) (tVar 5)))) (tAsg (tDGet (tVar 6) (tVar 8)) (gName 7)) tNext)))
    (tSeq (tIfS (tTest (tOp rIsN (tVar 7) (tC .non))) (tRaiseW (wE E) g.Unreached) tNext)
    (tSeq (tAsg (tCallS (sp_joined K g) (fun _ => E0) (tCons (tOp (rIxL K) (tFld K (tFld K (tVar 0) "book") "made") (tVar 7)) (tCons (tVar 3) tNil))) (gName 3))
    (tAsg (tOp rAddI (tVar 5) (tC (.int 1))) (gName 5))))))))
    (tRet (tVar 4))))))))
theorem pure_Room_number_of {K : PySem.W.Frag} {g : Gd} (cR : RmC K g) (cB : BkC K g) (vs : List V) (H : Hp) (Q : VK) (E : XK) (h : sp_Room_number_of K g vs H Q E) : Rd1 (t_Room_number_of K g E) N_Room_number_of vs H Q := by
  obtain ⟨R, B, moves, q, a, rfl, hR, hq, hl, e1, e2, k⟩ := h
  have ok := hR.cl.ok
  have h16 := ok.h2
  have h01 := ok.h1
  have hmany := many_lt ok.pre
  unfold t_Room_number_of
  walk_at "rd"
  refine hR.inst (by rfl) ?_
  walk_at "rd"
  refine ⟨R, B, moves, q, a, rfl, hR, sqT hq, hl, fun c => e1 c, fun c1 c2 => e2 c1 c2, fun ca cl => ?_⟩
  obtain ⟨b, pb, eb, _, _⟩ := seatB_is ca
  rw [cl] at pb
  obtain ⟨k0, k1⟩ := k b eb pb
  rw [eb, ← vN_eq] at hq
  walk_at "rd"
  refine hR.inst (by rfl) ?_
  walk_at "rd"
  refine ⟨R, B, moves, rfl, hR, ?_⟩
  walk_at "rd"
  refine hR.f_size cR ?_
  walk_at "rd"
  refine ⟨_, rfl, fun _ q0 H1 s1 hq0 hq01 => ?_, fun c => absurd (by omega) c⟩
  rw [show ((B.n : Int)).toNat = B.n from Int.toNat_natCast _] at hq01
  have hR1 := hR.same s1
  walk_at "rd"
  refine hR1.f_book cR ?_
  walk_at "rd"
  refine hR1.bk.f_rows cB ?_
  rw [many_eq ok.rl]
  refine ⟨R.A.lr, rfl, ⟨_, sqL hR1.bk.rw⟩, for_list (K := K) (a := R.A.lr) (xs := R.A.ds.map V.ref) (fun i σ H' => ∃ (T : Nat) (u : Addr) (A : List Nat) (y1 y2 y3 : Option V), i ≤ B.n ∧ σ = [some (.ref R.r), some (.ref q), some (.int (belowK B (B.n - i) i : Int)), some (.ref u), some (.int (T : Int)), some (.int (i : Int)), y1, y2, y3] ∧ Same H H' ∧ H' u = some (.tup (vN A)) ∧ IsP B.n A ∧
    (numO B (B.n - i) i A b).map (fun t => T + t) = numB B b) ?_ ?_ ?_ ?_⟩
  · exact ⟨0, q0, _, none, none, none, Nat.zero_le _, rfl, s1, hq01, isP_id _, by
      show (numB B b).map _ = _
      cases numB B b with
      | none => rfl
      | some t => show some (0 + t) = some t; rw [Nat.zero_add]⟩
  · rintro i σ H' _ ⟨_, _, _, _, _, _, _, _, s, _⟩; exact sqL ((hR.same s).bk.rw)
  · rintro i x σ H2 hx ⟨T, u, A, y1, y2, y3, _, rfl, s2, hu, pA, hnum⟩
    rw [List.getElem?_map] at hx
    cases ed : R.A.ds[i]? with
    | none => rw [ed] at hx; cases hx
    | some d =>
      rw [ed] at hx
      cases hx
      have hi : i < B.n := by
        have := (List.getElem?_eq_some_iff.mp ed).1
        rw [hR.bk.dl] at this
        exact this
      have hR2 := hR.same s2
      have hd := hR2.bk.ro i d ed
      have hq2 := s2 _ _ hq
      have hrow := row_len ok.pre (k := i) hi
      have hrow1 := List.length_pos_of_mem (ok.row i hi).hd
      have ef : B.n - i = (B.n - (i + 1)) + 1 := by omega
      rw [ef] at hnum
      unfold numO at hnum
      have ebl : (belowK B (B.n - i) i : Int) / ((B.row i).length : Int) = (belowK B (B.n - (i + 1)) (i + 1) : Int) := by
        rw [ef]
        show (((B.row i).length * belowK B (B.n - (i + 1)) (i + 1) : Nat) : Int) / _ = _
        rw [Int.natCast_mul, Int.mul_ediv_cancel_left _ (by omega)]
      have keyP : ∀ p ∈ B.row i, p.1 < B.n ∧ rowGet (B.row i) p.1 = some p.2 := fun p hp => by
        have en := (ok.row i hi).en p.1 p.2 hp
        exact ⟨by rw [← en.2.2.1]; exact (ok.mkP en.1).getD_lt hi, rowGet_of (ok.row i hi).nd hp⟩
      generalize hb' : belowK B (B.n - (i + 1)) (i + 1) = bl at *
      show tSeq _ _ _ (List.set _ 6 (some (V.ref d))) _
      walk_at "rd"
      refine ⟨d, _, rfl, hd, ?_⟩
      rw [rowV_len]
      refine div_I (by omega) (by omega) ?_
      rw [ebl]
      walk_at "rd"
      refine ⟨d, _, rfl, hd, fun l hl => ?_⟩
      have ek : (rowV (B.row i)).map (fun kv => kV kv.1) = vN ((B.row i).map (·.1)) := by
        unfold rowV
        show _ = ((B.row i).map _).map _
        rw [List.map_map, List.map_map] <;> rfl
      rw [ek]
      have s3 := (Same.refl H2).new (o := .lst (vN ((B.row i).map (·.1)))) hl
      have hl3 : (upd H2 l (.lst (vN ((B.row i).map (·.1))))) l = some (.lst (vN ((B.row i).map (·.1)))) := upd_same
      generalize upd H2 l (.lst (vN ((B.row i).map (·.1)))) = H3 at *
      have hd3 := s3 _ _ hd
      have hu3 := s3 _ _ hu
      have hq3 := s3 _ _ hq2
      refine ⟨l, rfl, ⟨_, sqL hl3⟩, for_list (K := K) (a := l) (xs := vN ((B.row i).map (·.1))) (fun m σ H' => H' = H3 ∧ ∃ (v : V) (y : Option V), σ = [some (.ref R.r), some (.ref q), some (.int (bl : Int)), some (.ref u), some (.int ((T + cntR ((B.row i).take m) A (b.getD i 0) * bl : Nat) : Int)), some (.int (i : Int)), some (.ref d), some v, y] ∧
        ((v = .non ∧ ∀ p ∈ (B.row i).take m, A.getD p.1 0 ≠ b.getD i 0) ∨ ∃ p ∈ B.row i, A.getD p.1 0 = b.getD i 0 ∧ v = .int (p.2 : Int))) ?_ ?_ ?_ ?_⟩
      · refine ⟨rfl, .non, y3, ?_, .inl ⟨rfl, fun p hp => by rw [List.take_zero] at hp; cases hp⟩⟩
        rw [List.take_zero]
        show _ = [_, _, _, _, some (V.int ((T + 0 * bl : Nat) : Int)), _, _, _, _]
        rw [Nat.zero_mul] <;> rfl
      · rintro m σ H' _ ⟨rfl, _⟩; exact sqL hl3
      · rintro m z σ H' hz ⟨rfl, v, y, rfl, hv⟩
        obtain ⟨j, hj, rfl⟩ := vN_get hz
        rw [List.getElem?_map] at hj
        cases ep : (B.row i)[m]? with
        | none => rw [ep] at hj; cases hj
        | some p =>
          rw [ep] at hj
          have hj : p.1 = j := Option.some.inj hj
          subst hj
          have hpm := List.mem_of_getElem? ep
          obtain ⟨hjl, hg⟩ := keyP p hpm
          have hdg : DGet H' d (V.int (p.1 : Int)) (some (V.int (p.2 : Int))) := by
            have := DGet.k hd3 (k := Sum.inl (p.1 : Int))
            rw [rowV_get, hg] at this
            exact this
          have ec := cntR_snoc (r := (B.row i).take m) (p := p) (A := A) (v := b.getD i 0)
          rw [← take_more ep] at ec
          show tSeq _ _ _ (List.set _ 8 (some (V.int (p.1 : Int)))) _
          walk_at "re"
          walk_at "sq"
          refine w_join (t := tIfS _ _ _) (fun σ H2 => H2 = H' ∧ σ = [some (.ref R.r), some (.ref q), some (.int (bl : Int)), some (.ref u), some (.int ((T + cntR ((B.row i).take (m + 1)) A (b.getD i 0) * bl : Nat) : Int)), some (.int (i : Int)), some (.ref d), some v, some (.int (p.1 : Int))]) ?_ fun key => ?_
          · rintro σ H2' ⟨rfl, rfl⟩
            walk_at "rd"
            refine ix_TN (i := p.1) (sqT hu3) (by rw [pA.len]; exact hjl) rfl ?_
            walk_at "rd"
            refine ix_TN (i := i) (sqT hq3) (by rw [pb.len]; exact hi) rfl ?_
            walk_at "rd"
            refine if_d (fun c => ?_) (fun c => ?_)
            · walk_at "rd"
              refine ⟨d, _, rfl, hdg, ?_⟩
              walk_at "rd"
              exact ⟨rfl, _, _, rfl, .inr ⟨p, hpm, by omega, rfl⟩⟩
            · walk_at "rd"
              refine ⟨rfl, v, _, rfl, ?_⟩
              rcases hv with ⟨hv, hall⟩ | hv
              · refine .inl ⟨hv, fun p' hp' => ?_⟩
                rw [take_more ep] at hp'
                rcases List.mem_append.mp hp' with hp' | hp'
                · exact hall p' hp'
                · rw [List.mem_singleton.mp hp']; omega
              · exact .inr hv
          · walk_at "st"
            walk_at "ex"
            refine ix_TN (i := p.1) (sqT hu3) (by rw [pA.len]; exact hjl) rfl ?_
            walk_at "ex"
            refine ix_TN (i := i) (sqT hq3) (by rw [pb.len]; exact hi) rfl ?_
            walk_at "ex"
            refine if_d (fun c => ?_) (fun c => ?_)
            · rw [if_pos (by omega)] at ec
              walk_at "st"
              walk_at "ex"
              refine key _ _ ⟨rfl, ?_⟩
              have : ((T + cntR ((B.row i).take m) A (b.getD i 0) * bl : Nat) : Int) + (bl : Int) = ((T + cntR ((B.row i).take (m + 1)) A (b.getD i 0) * bl : Nat) : Int) := by
                rw [ec, Nat.add_mul, Nat.one_mul]; omega
              rw [this] <;> rfl
            · rw [if_neg (by omega), Nat.add_zero] at ec
              refine key _ _ ⟨rfl, ?_⟩
              rw [ec] <;> rfl
      · rintro σ H' ⟨rfl, v, y, rfl, hv⟩
        rw [vN_len, List.length_map, List.take_length] at hv ⊢
        rcases hv with ⟨rfl, hall⟩ | ⟨p, hp, ep, rfl⟩
        · have hpk : pickR (B.row i) A (b.getD i 0) = none := by
            cases c : pickR (B.row i) A (b.getD i 0) with
            | none => rfl
            | some i' =>
              obtain ⟨j, hj, ej⟩ := pickR_some c
              exact absurd ej (hall _ hj)
          rw [hpk] at hnum
          have hnum : none = numB B b := hnum
          walk_at "rd"
          refine ⟨rfl, true, by rfl, if_t rfl ?_⟩
          exact k0 ((numB_none ok pb).mp hnum.symm) _ (s2.trans s3)
        · have hsm := pickR_of (r := B.row i) (A := A) (v := b.getD i 0) (j := p.1) (i := p.2) hp ep
          cases c : pickR (B.row i) A (b.getD i 0) with
          | none => rw [c] at hsm; cases hsm
          | some i' =>
            rw [c] at hnum
            obtain ⟨j, hj, ej⟩ := pickR_some c
            obtain ⟨l1, g1⟩ := keyP p hp
            obtain ⟨l2, g2⟩ := keyP (j, i') hj
            have ejp : j = p.1 := nd_getD pA.nd (by rw [pA.len]; exact l2) (by rw [pA.len]; exact l1) (by rw [ej, ep])
            have ei : i' = p.2 := by
              have g2 : rowGet (B.row i) j = some i' := g2
              rw [ejp, g1] at g2
              exact (Option.some.inj g2).symm
            subst ei
            have hnum : ((numO B (B.n - (i + 1)) (i + 1) (jn (B.mk' p.2) A) b).map fun t => cntR (B.row i) A (b.getD i 0) * bl + t).map (fun t => T + t) = numB B b := hnum
            have en := (ok.row i hi).en _ _ hp
            have pm := ok.mkP en.1
            have hR3 := hR2.same s3
            walk_at "rd"
            refine ⟨rfl, false, by rfl, if_f rfl ?_⟩
            walk_at "rd"
            refine hR3.f_book cR ?_
            walk_at "rd"
            refine hR3.bk.f_made cB ?_
            walk_at "rd"
            refine hR3.bk.ix_made en.1 rfl fun w hw => ?_
            walk_at "rd"
            refine ⟨w, u, _, A, rfl, sqT hw, sqT hu3, by rw [pm.len]; omega, fun z hz => by rw [pA.len]; exact pm.lt hz, fun v2 H6 s6 hv hv6 => ?_⟩
            walk_at "rd"
            refine ⟨T + cntR (B.row i) A (b.getD i 0) * bl, v2, _, _, _, _, hi, rfl, s2.trans (s3.trans s6), hv6, isP_jn pm pA, ?_⟩
            rw [← hnum, Option.map_map]
            congr 1
            funext t
            show T + cntR (B.row i) A (b.getD i 0) * bl + t = T + (cntR (B.row i) A (b.getD i 0) * bl + t)
            omega
  · rintro σ H2 ⟨T, u, A, y1, y2, y3, _, rfl, s2, hu, pA, hnum⟩
    rw [List.length_map, hR.bk.dl, Nat.sub_self] at hnum
    have hnum : some (T + 0) = numB B b := hnum
    walk_at "rd"
    refine k1 T ?_ H2 s2
    exact (numB_iff ok pb T).mp (by rw [← hnum, Nat.add_zero])
/-- the seating at a place -/
theorem enum_at {B : Bk} {moves : List (List Nat)} (ok : BkOk B moves) {t : Nat} (ht : t < manyB B) : ∃ a, (enumB B)[t]? = some a ∧ IsP B.n a ∧ Sifts B a := by
  rw [← enumB_len ok] at ht
  have e := List.getElem?_eq_getElem ht
  have s := (enumB_mem ok _).mp (List.mem_of_getElem? e)
  exact ⟨_, e, s.isP ok, (sifts_sk ok (s.isP ok)).mpr s⟩
theorem numbered_ok {K : PySem.W.Frag} {g : Gd} {H : Hp} {Q : VK} {E : XK} {R : RA} {B : Bk} {ms : List (List Nat)} (hR : RoomAt g H R B ms) {t : Nat} {a : List Nat} (ht : (enumB B)[t]? = some a) (k : NewT H a Q) : sp_Room_numbered K g [.ref R.r, .int (t : Int)] H Q E := by
  have := (List.getElem?_eq_some_iff.mp ht).1
  rw [enumB_len hR.cl.ok] at this
  refine ⟨R, B, ms, t, rfl, hR, fun c => absurd ⟨by omega, by omega⟩ c, fun t' a' et ha => ?_⟩
  have et : t = t' := by omega
  subst et
  rw [ht] at ha
  cases ha
  exact k
theorem number_ok {K : PySem.W.Frag} {g : Gd} {H : Hp} {Q : VK} {E : XK} {R : RA} {B : Bk} {ms : List (List Nat)} {q : Addr} {a : List Nat} (hR : RoomAt g H R B ms) (hq : H q = some (.tup (vN a))) (pa : IsP B.n a) {t : Nat} (ht : (enumB B)[t]? = some a) (k : ∀ H', Same H H' → Q (.int (t : Int)) H') : sp_Room_number_of K g [.ref R.r, .ref q] H Q E := by
  have h := hR.n16
  have hl : (a.map fun (x : Nat) => (x : Int)).length = B.n := by rw [List.length_map, pa.len]
  have ho := seatB_N pa hR.n1 hR.n16
  have ok := hR.cl.ok
  refine ⟨R, B, ms, q, _, rfl, hR, by rw [← vN_eq]; exact hq, by omega, fun c => (by rw [ho] at c; cases c), fun _ c => absurd hl c, fun m em pm => ?_⟩
  rw [vInj] at em
  subst em
  refine ⟨fun c => absurd ((sifts_sk ok pa).mpr ((enumB_mem ok _).mp (List.mem_of_getElem? ht))) c, fun t' ht' => ?_⟩
  have e1 := (numB_iff ok pa t).mpr ht
  have e2 := (numB_iff ok pa t').mpr ht'
  rw [e1] at e2
  cases e2
  exact k
end Shf

/-! seats led to; ring_of -/
namespace Shf
open PySem L2
def sp_ask_seat (K : PySem.W.Frag) (g : Gd) : Sp := fun vs H Q E => ∃ (R : RA) (B : Bk) (moves : List (List Nat)) (z : Int), vs = [.ref R.r, .int z] ∧ RoomAt g H R B moves ∧ (¬ (0 ≤ z ∧ z < (B.n : Int)) → E (.ref g.NoSeat) none H) ∧ (0 ≤ z ∧ z < (B.n : Int) → Q .non H)
theorem len_ask_seat (K : PySem.W.Frag) (g : Gd) (vs : List V) (H : Hp) (Q : VK) (E : XK) (h : sp_ask_seat K g vs H Q E) : vs.length = 2 := by obtain ⟨_, _, _, _, rfl, _⟩ := h; rfl
--@facts ask_seat r_Room
abbrev N_ask_seat : List Str := ["room", "seat"]
/-- ask_seat -/
def t_ask_seat (K : PySem.W.Frag) (g : Gd) (E : XK) : TS :=
  (tIfS (tOr (tTest (tOp rLtI (tVar 1) (tC (.int 0)))) (tTest (tOp rGeI (tVar 1) (tFld K (tVar 0) "size")))) (tRaiseW (wE E) g.NoSeat) tNext)
theorem pure_ask_seat {K : PySem.W.Frag} {g : Gd} (cR : RmC K g) (vs : List V) (H : Hp) (Q : VK) (E : XK) (h : sp_ask_seat K g vs H Q E) : Rd1 (t_ask_seat K g E) N_ask_seat vs H Q := by
  obtain ⟨R, B, moves, z, rfl, hR, e, k⟩ := h
  unfold t_ask_seat
  refine w_if ?_
  refine w_orP (b := decide (z < 0)) (c := decide ((B.n : Int) ≤ z)) (fun R' r => ?_) (fun R' r => ?_) ?_
  · walk_at "ex"
    exact r
  · walk_at "ex"
    refine hR.f_size cR ?_
    walk_at "ex"
    exact r
  refine if_b (fun c => ?_) (fun c => ?_)
  · refine e fun zz => ?_
    rw [decide_eq_false (by omega), decide_eq_false (by omega)] at c
    cases c
  · refine k ⟨?_, ?_⟩
    · refine Decidable.byContradiction fun q => ?_
      rw [decide_eq_true (by omega)] at c
      cases c
    · refine Decidable.byContradiction fun q => ?_
      rw [decide_eq_true (p := (B.n : Int) ≤ z) (by omega), Bool.or_true] at c
      cases c
/-- the seats to which moves lead -/
inductive Rch (moves : List (List Nat)) (x : Nat) : Nat → Prop
  | refl : Rch moves x x
  | step {y : Nat} {m : List Nat} : Rch moves x y → m ∈ moves → Rch moves x (m.getD y 0)
theorem Rch.lt {n : Nat} {moves : List (List Nat)} (hm : ∀ m ∈ moves, IsP n m) {x y : Nat} (hx : x < n) (h : Rch moves x y) : y < n := by
  induction h with
  | refl => exact hx
  | step _ m ih => exact (hm _ m).getD_lt ih
/-- rising lists of the same numbers are one -/
theorem rise_uniq {l l' : List Nat} (h : l.Pairwise (· < ·)) (h' : l'.Pairwise (· < ·)) (e : ∀ x, x ∈ l ↔ x ∈ l') : l = l' := by
  have nd : ∀ {l : List Nat}, l.Pairwise (· < ·) → l.Nodup := fun h => h.imp fun a => by omega
  refine List.Perm.eq_of_pairwise (le := fun a b : Nat => a ≤ b) (fun a b _ _ h1 h2 => by omega) (h.imp fun a => by omega) (h'.imp fun a => by omega) ((List.perm_ext_iff_of_nodup (nd h) (nd h')).mpr e)
def NewLN (H : Hp) (l : List Nat) (Q : VK) : Prop := ∀ (r : Addr) (H' : Hp), Same H H' → H r = none → H' r = some (.lst (vN l)) → Q (.ref r) H'
theorem notin_LN {K : PySem.W.Frag} {H : Hp} {Q : VK} {p : Addr} {a : List Nat} {x : Nat} (h : SqL K H p (vN a)) (k : Q (.bl (!decide (x ∈ a))) H) : rIn K true (.int (x : Int)) (.ref p) H Q := by
  rw [vN_eq] at h
  refine notin_LI h ?_
  have e : decide ((x : Int) ∈ a.map fun (x : Nat) => (x : Int)) = decide (x ∈ a) := dec_iff ⟨fun z => by
    obtain ⟨y, hy, e⟩ := List.mem_map.mp z
    have : y = x := by omega
    rw [← this]; exact hy, fun z => List.mem_map.mpr ⟨x, z, rfl⟩⟩
  rw [e]
  exact k
def sp_ring_of (K : PySem.W.Frag) (g : Gd) : Sp := fun vs H Q E => ∃ (R : RA) (B : Bk) (moves : List (List Nat)) (z : Int), vs = [.ref R.r, .int z] ∧ RoomAt g H R B moves ∧ (¬ (0 ≤ z ∧ z < (B.n : Int)) → E (.ref g.NoSeat) none H) ∧
  ∀ x : Nat, z = (x : Int) → x < B.n → ∀ l : List Nat, l.Pairwise (· < ·) → (∀ y, y ∈ l ↔ Rch moves x y) → NewLN H l Q
theorem len_ring_of (K : PySem.W.Frag) (g : Gd) (vs : List V) (H : Hp) (Q : VK) (E : XK) (h : sp_ring_of K g vs H Q E) : vs.length = 2 := by obtain ⟨_, _, _, _, rfl, _⟩ := h; rfl
abbrev N_ring_of : List Str := ["room", "seat", "moves", "found", "at", "move"]
/-- ring_of -/
def t_ring_of (K : PySem.W.Frag) (g : Gd) (E : XK) : TS :=
  (tSeq (tDrop (tCallS (sp_ask_seat K g) (WE (wE E)) (tCons (tVar 0) (tCons (tVar 1) tNil))))
    (tSeq (tAsg (tMethS g.Room "moves" (sp_Room_moves K g) (fun _ => E0) (tVar 0) tNil) (gName 2))
    (tSeq (tAsg (tLst (tCons (tVar 1) tNil)) (gName 3))
    (tSeq (tAsg (tC (.int 0)) (gName 4))
    (tSeq (tWhile (tTest (tOp rLtI (tVar 4) (tCB (rLenQ K) (tCons (tVar 3) tNil)))) (tSeq (tFor (iList K (tVar 2)) (gName 5) (tIfS (tTest (tOp (rIn K true) (tOp (rIxT K) (tVar 5) (tOp (rIxL K) (tVar 3) (tVar 4))) (tVar 3))) (tDrop (tBM K "list" rAppend (tVar 3) (tCons (tOp (rIxT K) (tVar 5) (tOp (rIxL K) (tVar 3) (tVar 4))) tNil))) tNext))
    (tAsg (tOp rAddI (tVar 4) (tC (.int 1))) (gName 4))))
    (tRet (tCB (rSortedI K) (tCons (tVar 3) tNil))))))))
theorem pure_ring_of {K : PySem.W.Frag} {g : Gd} (vs : List V) (H : Hp) (Q : VK) (E : XK) (h : sp_ring_of K g vs H Q E) : Rd1 (t_ring_of K g E) N_ring_of vs H Q := by
  obtain ⟨R, B, moves, z, rfl, hR, e, k⟩ := h
  have h16 := hR.n16
  have hmp := hR.mp
  unfold t_ring_of
  walk_at "rd"
  refine ⟨R, B, moves, z, rfl, hR, fun c => e c, fun hz => ?_⟩
  obtain ⟨x, rfl⟩ : ∃ x : Nat, z = (x : Int) := ⟨z.toNat, by omega⟩
  have hx : x < B.n := by omega
  have k := k x rfl hx
  walk_at "rd"
  refine hR.inst (by rfl) ?_
  walk_at "rd"
  refine ⟨R, B, moves, rfl, hR, fun t H1 tv s1 ht ht1 htl => ?_⟩
  walk_at "rd"
  refine ⟨zl (by show 1 ≤ 100000; omega), fun f hf => ?_⟩
  have s2 := s1.new (o := .lst [.int (x : Int)]) hf
  have hf0 := s1.free hf
  have s12 := (Same.refl H1).new (o := .lst [.int (x : Int)]) hf
  have hf2 : (upd H1 f (.lst [.int (x : Int)])) f = some (.lst (vN [x])) := upd_same
  have htf : t ≠ f := ne_of_none ht1 hf
  have ht2 := s12 _ _ ht1
  have htl2 := htl.mono s12
  generalize upd H1 f (.lst [.int (x : Int)]) = H2 at *
  walk_at "rd"
  refine w_while ⟨fun me σ H' => ∃ (at_ : Nat) (as : List Nat) (y : Option V), me = B.n + 1 - at_ ∧ σ = [some (.ref R.r), some (.int (x : Int)), some (.ref t), some (.ref f), some (.int (at_ : Int)), y] ∧ Same H H' ∧ But [f] H2 H' ∧ H' f = some (.lst (vN as)) ∧ as.Nodup ∧
    (∀ a ∈ as, Rch moves x a) ∧ x ∈ as ∧ at_ ≤ as.length ∧ (∀ j, j < at_ → ∀ m ∈ moves, m.getD (as.getD j 0) 0 ∈ as), ⟨_, 0, [x], none, rfl, rfl, s2, But.refl _ _, hf2, by simp, fun a ha => (by rw [List.mem_singleton.mp ha]; exact .refl), List.mem_singleton.mpr rfl, Nat.zero_le _, fun j hj => absurd hj (Nat.not_lt_zero j)⟩, ?_⟩
  rintro me σ H3 ⟨at_, as, y, rfl, rfl, s3, b3, hF, nd, hG, h1, hat, hcl⟩
  have hlt : ∀ a ∈ as, a < B.n := fun a ha => (hG a ha).lt hmp hx
  have hle : ∀ {as : List Nat}, as.Nodup → (∀ a ∈ as, Rch moves x a) → as.length ≤ B.n := fun {as} nd hG => by
    have := nd_sub_len nd (m := List.range B.n) fun a ha => List.mem_range.mpr ((hG a ha).lt hmp hx)
    rw [List.length_range] at this
    exact this
  walk_at "rd"
  refine len_LN (sqL hF) ?_
  walk_at "rd"
  refine if_d (fun c => ?_) (fun c => ?_)
  · have c : at_ < as.length := by omega
    have hl := hle nd hG
    refine ⟨fun σ' H' => ∃ (as : List Nat) (y : Option V), σ' = [some (.ref R.r), some (.int (x : Int)), some (.ref t), some (.ref f), some (.int ((at_ + 1 : Nat) : Int)), y] ∧ Same H H' ∧ But [f] H2 H' ∧ H' f = some (.lst (vN as)) ∧ as.Nodup ∧
      (∀ a ∈ as, Rch moves x a) ∧ x ∈ as ∧ at_ + 1 ≤ as.length ∧ (∀ j, j < at_ + 1 → ∀ m ∈ moves, m.getD (as.getD j 0) 0 ∈ as), ?_, ?_⟩
    · rintro σ' H' ⟨as, y, h⟩
      exact ⟨_, by omega, at_ + 1, as, y, rfl, h⟩
    have htF : t ∉ [f] := fun z => htf (List.mem_singleton.mp z)
    walk_at "rd"
    refine ⟨t, rfl, ⟨_, sqL (b3.s _ _ ht2 htF)⟩, for_list (K := K) (a := t) (xs := tv) (fun i σ H' => ∃ (as2 : List Nat) (y : Option V), σ = [some (.ref R.r), some (.int (x : Int)), some (.ref t), some (.ref f), some (.int (at_ : Int)), y] ∧ Same H H' ∧ But [f] H2 H' ∧ H' f = some (.lst (vN as2)) ∧ as2.Nodup ∧
      (∀ a ∈ as2, Rch moves x a) ∧ as <+: as2 ∧ (∀ m ∈ moves.take i, m.getD (as.getD at_ 0) 0 ∈ as2)) ?_ ?_ ?_ ?_⟩
    · exact ⟨as, y, rfl, s3, b3, hF, nd, hG, List.prefix_refl _, fun a ha => (by rw [List.take_zero] at ha; cases ha)⟩
    · rintro i σ H' _ ⟨_, _, _, _, b', _⟩
      exact sqL (b'.s _ _ ht2 htF)
    · rintro i z σ H4 hz ⟨as2, y2, rfl, s4, b4, hF4, nd2, hG2, hpre, hdone⟩
      obtain ⟨q, m, rfl, him, hq⟩ := (htl2.tu b4.t).get' hz
      have hmm := List.mem_of_getElem? him
      have pm := hmp m hmm
      have c2 : at_ < as2.length := Nat.lt_of_lt_of_le c hpre.length_le
      have e2 : as2.getD at_ 0 = as.getD at_ 0 := prefix_getD hpre c
      have hv : as.getD at_ 0 < B.n := hlt _ (List.mem_of_getElem? (getD_at c))
      have tk := take_more him
      show tIfS _ _ _ _ (List.set _ 5 (some (V.ref q))) H4
      walk_at "rd"
      refine ix_LN (i := at_) (sqL hF4) c2 rfl ?_
      rw [e2]
      refine ix_TN (i := as.getD at_ 0) (sqT hq) (by rw [pm.len]; exact hv) rfl ?_
      walk_at "rd"
      refine notin_LN (sqL hF4) ?_
      walk_at "rd"
      have hr : Rch moves x (m.getD (as.getD at_ 0) 0) := .step (hG _ (List.mem_of_getElem? (getD_at c))) hmm
      refine if_nd (fun cn => ?_) (fun cn => ?_)
      · walk_at "rd"
        refine ⟨isL (sqL hF4), ?_⟩
        walk_at "rd"
        refine ix_LN (i := at_) (sqL hF4) c2 rfl ?_
        rw [e2]
        refine ix_TN (i := as.getD at_ 0) (sqT hq) (by rw [pm.len]; exact hv) rfl ?_
        walk_at "rd"
        have := hle nd2 hG2
        refine app_N hF4 (by omega) ?_
        walk_at "rd"
        refine ⟨as2 ++ [m.getD (as.getD at_ 0) 0], _, rfl, s4.up hf0, b4.up hF4 (fun _ z => by cases z) (List.mem_singleton.mpr rfl), upd_same, ?_, fun b hb => ?_, hpre.trans (List.prefix_append _ _), fun b hb => ?_⟩
        · refine List.nodup_append.mpr ⟨nd2, by simp, fun b hb d hd e => ?_⟩
          rw [List.mem_singleton.mp hd] at e
          rw [e] at hb
          exact cn hb
        · rcases List.mem_append.mp hb with hb | hb
          · exact hG2 b hb
          · rw [List.mem_singleton.mp hb]; exact hr
        · rw [tk] at hb
          rcases List.mem_append.mp hb with hb | hb
          · exact List.mem_append_left _ (hdone b hb)
          · rw [List.mem_singleton.mp hb]; exact List.mem_append_right _ (List.mem_singleton.mpr rfl)
      · walk_at "rd"
        refine ⟨as2, _, rfl, s4, b4, hF4, nd2, hG2, hpre, fun b hb => ?_⟩
        rw [tk] at hb
        rcases List.mem_append.mp hb with hb | hb
        · exact hdone b hb
        · rw [List.mem_singleton.mp hb]; exact cn
    · rintro σ H4 ⟨as2, y2, rfl, s4, b4, hF4, nd2, hG2, hpre, hdone⟩
      rw [htl.len, List.take_length] at hdone
      have hsub : ∀ a ∈ as, a ∈ as2 := fun a ha => hpre.subset ha
      have hle3 := hpre.length_le
      walk_at "rd"
      refine ⟨as2, _, rfl, s4, b4, hF4, nd2, hG2, hsub _ h1, by omega, fun j hj m hm => ?_⟩
      rw [prefix_getD hpre (by omega)]
      by_cases cj : j = at_
      · rw [cj]; exact hdone m hm
      · exact hsub _ (hcl j (by omega) m hm)
  · have ea : at_ = as.length := by omega
    have hmem : ∀ y, y ∈ as ↔ Rch moves x y := fun y => ⟨fun hy => hG y hy, fun hy => by
      induction hy with
      | refl => exact h1
      | @step y m _ hm ih =>
        obtain ⟨j, hj, ej⟩ := List.getElem_of_mem ih
        have := hcl j (by omega) m hm
        have ejd : as.getD j 0 = y := by rw [List.getD_eq_getElem?_getD, List.getElem?_eq_getElem hj, ej] <;> rfl
        rw [ejd] at this
        exact this⟩
    walk_at "rd"
    rw [vN_eq] at hF
    refine ⟨f, _, rfl, sqL hF, fun ns p hp hs hpn => ?_⟩
    have key : ns = ((as.mergeSort fun a b => decide (a ≤ b)).map fun (x : Nat) => (x : Int)) := by
      refine List.Perm.eq_of_pairwise (le := fun a b : Int => a ≤ b) (fun a b _ _ h1 h2 => by omega) hs ?_ ?_
      · have := List.pairwise_mergeSort (le := fun a b : Nat => decide (a ≤ b)) (fun a b c h1 h2 => by simp only [decide_eq_true_eq] at h1 h2 ⊢; omega) (fun a b => by simp only [Bool.or_eq_true, decide_eq_true_eq]; omega) as
        exact List.pairwise_map.mpr (this.imp fun h => by have := of_decide_eq_true h; show ((_ : Nat) : Int) ≤ ((_ : Nat) : Int); omega)
      · exact hp.trans ((List.mergeSort_perm as _).symm.map _)
    have hperm := List.mergeSort_perm as fun a b => decide (a ≤ b)
    have hsr : (as.mergeSort fun a b => decide (a ≤ b)).Pairwise (· < ·) := by
      have h1 := List.pairwise_mergeSort (le := fun a b : Nat => decide (a ≤ b)) (fun a b c h1 h2 => by simp only [decide_eq_true_eq] at h1 h2 ⊢; omega) (fun a b => by simp only [Bool.or_eq_true, decide_eq_true_eq]; omega) as
      have h2 := hperm.nodup_iff.mpr nd
      exact (List.pairwise_and_iff.mpr ⟨h1, h2⟩).imp fun ⟨a, b⟩ => by have := of_decide_eq_true a; omega
    have hmem2 : ∀ y, y ∈ (as.mergeSort fun a b => decide (a ≤ b)) ↔ Rch moves x y := fun y => hperm.mem_iff.trans (hmem y)
    rw [key]
    have ev : (((as.mergeSort fun a b => decide (a ≤ b)).map fun (x : Nat) => (x : Int)).map V.int) = vN (as.mergeSort fun a b => decide (a ≤ b)) := (vN_eq _).symm
    rw [ev]
    exact k _ hsr hmem2 p _ (s3.new hpn) (s3.free hpn) upd_same
end Shf

/-! the finest parting; parting walked -/
namespace Shf
open PySem L2
/-- alike, by what must be so -/
inductive Alk (moves : List (List Nat)) (p q : Nat) : Nat → Nat → Prop
  | refl (x : Nat) : Alk moves p q x x
  | base : Alk moves p q p q
  | base' : Alk moves p q q p
  | trans {x y z : Nat} : Alk moves p q x y → Alk moves p q y z → Alk moves p q x z
  | move {x y : Nat} {m : List Nat} : Alk moves p q x y → m ∈ moves → Alk moves p q (m.getD x 0) (m.getD y 0)
theorem Alk.symm {moves : List (List Nat)} {p q x y : Nat} (h : Alk moves p q x y) : Alk moves p q y x := by
  induction h with
  | refl x => exact .refl x
  | base => exact .base'
  | base' => exact .base
  | trans _ _ i1 i2 => exact .trans i2 i1
  | move _ m ih => exact .move ih m
/-- the parts that a relation makes -/
def partsB (n : Nat) (r : Nat → Nat → Bool) : List (List Nat) := ((List.range n).filter fun k => (List.range k).all fun y => !r k y).map fun k => (List.range n).filter (r k)
theorem partsB_eq {n : Nat} {r r' : Nat → Nat → Bool} (h : ∀ x y, x < n → y < n → r x y = r' x y) : partsB n r = partsB n r' := by
  unfold partsB
  have e1 : ((List.range n).filter fun k => (List.range k).all fun y => !r k y) = ((List.range n).filter fun k => (List.range k).all fun y => !r' k y) := by
    refine List.filter_congr fun k hk => ?_
    have hk := List.mem_range.mp hk
    rw [Bool.eq_iff_iff, List.all_eq_true, List.all_eq_true]
    constructor
    · intro z y hy; have := z y hy; rw [h k y hk (by have := List.mem_range.mp hy; omega)] at this; exact this
    · intro z y hy; have := z y hy; rw [← h k y hk (by have := List.mem_range.mp hy; omega)] at this; exact this
  rw [e1]
  refine List.map_congr_left fun k hk => ?_
  have hk := List.mem_range.mp (List.mem_filter.mp hk).1
  exact List.filter_congr fun y hy => h k y hk (List.mem_range.mp hy)
/-- a list of lists of numbers, newer than a heap -/
inductive LLN (H0 H : Hp) : List V → List (List Nat) → Prop
  | nil : LLN H0 H [] []
  | cons {p : Addr} {a : List Nat} {vs : List V} {as : List (List Nat)} : H p = some (.lst (vN a)) → H0 p = none → LLN H0 H vs as → LLN H0 H (.ref p :: vs) (a :: as)
theorem LLN.mono {H0 H H' : Hp} (s : Same H H') {vs : List V} {as : List (List Nat)} (h : LLN H0 H vs as) : LLN H0 H' vs as := by
  induction h with
  | nil => exact .nil
  | cons h1 h2 _ ih => exact .cons (s _ _ h1) h2 ih
theorem LLN.snoc {H0 H : Hp} {p : Addr} {a : List Nat} (h1 : H p = some (.lst (vN a))) (h2 : H0 p = none) {vs : List V} {as : List (List Nat)} (h : LLN H0 H vs as) : LLN H0 H (vs ++ [.ref p]) (as ++ [a]) := by
  induction h with
  | nil => exact .cons h1 h2 .nil
  | cons a b _ ih => exact .cons a b ih
theorem LLN.len {H0 H : Hp} {vs : List V} {as : List (List Nat)} (h : LLN H0 H vs as) : vs.length = as.length := by
  induction h with
  | nil => rfl
  | cons _ _ _ ih => simp [ih]
theorem LLN.get {H0 H : Hp} {vs : List V} {as : List (List Nat)} (h : LLN H0 H vs as) : ∀ {i : Nat} {a : List Nat}, as[i]? = some a → ∃ p, vs[i]? = some (.ref p) ∧ H p = some (.lst (vN a)) ∧ H0 p = none := by
  induction h with
  | nil => intro i a e; simp at e
  | cons h1 h2 _ ih =>
    intro i a e
    cases i with
    | zero => cases e; exact ⟨_, rfl, h1, h2⟩
    | succ i => exact ih (by simpa using e)
theorem LLN.out {H0 H : Hp} {l : Addr} {ws : List V} {o : HO} (hl : H l = some (.lst ws)) {vs : List V} {as : List (List Nat)} (h : LLN H0 H vs as) (hn : (.ref l : V) ∉ vs) : LLN H0 (L2.upd H l o) vs as := by
  induction h with
  | nil => exact .nil
  | @cons p a vs as h1 h2 _ ih =>
    have hn1 : p ≠ l := fun z => hn (by rw [z]; exact List.mem_cons_self)
    exact .cons (by rw [upd_ne hn1]; exact h1) h2 (ih fun z => hn (List.mem_cons_of_mem _ z))
def NewLLN (H : Hp) (as : List (List Nat)) (Q : VK) : Prop := ∀ (r : Addr) (H' : Hp) (vs : List V), Same H H' → H r = none → H' r = some (.lst vs) → LLN H H' vs as → (.ref r : V) ∉ vs → vs.Nodup → Q (.ref r) H'
def onePart (lead : List Nat) (a b : Nat) : List Nat := lead.map fun x => if x = max (lead.getD a 0) (lead.getD b 0) then min (lead.getD a 0) (lead.getD b 0) else x
def sp_one_part (K : PySem.W.Frag) (g : Gd) : Sp := fun vs H Q _ => ∃ (p : Addr) (lead : List Nat) (a b : Nat), vs = [.ref p, .int (a : Int), .int (b : Int)] ∧ H p = some (.lst (vN lead)) ∧ a < lead.length ∧ b < lead.length ∧ lead.length ≤ 1000 ∧ NewLN H (onePart lead a b) Q
theorem len_one_part (K : PySem.W.Frag) (g : Gd) (vs : List V) (H : Hp) (Q : VK) (E : XK) (h : sp_one_part K g vs H Q E) : vs.length = 3 := by obtain ⟨_, _, _, _, rfl, _⟩ := h; rfl
abbrev N_one_part : List Str := ["lead", "a", "b", "low", "high", "x"]
/-- one_part -/
def t_one_part (K : PySem.W.Frag) (g : Gd) (E : XK) : TS :=
  (tSeq (tAsg (tCB rMin2 (tCons (tOp (rIxL K) (tVar 0) (tVar 1)) (tCons (tOp (rIxL K) (tVar 0) (tVar 2)) tNil))) (gName 3))
    (tSeq (tAsg (tCB rMax2 (tCons (tOp (rIxL K) (tVar 0) (tVar 1)) (tCons (tOp (rIxL K) (tVar 0) (tVar 2)) tNil))) (gName 4))
    (tRet (tLc (iList K (tVar 0)) (gName 5) tYes (tIf (tTest (tOp rEq (tVar 5) (tVar 4))) (tVar 3) (tVar 5)) [5]))))
theorem pure_one_part {K : PySem.W.Frag} {g : Gd} (vs : List V) (H : Hp) (Q : VK) (E : XK) (h : sp_one_part K g vs H Q E) : Rd1 (t_one_part K g E) N_one_part vs H Q := by
  obtain ⟨p, lead, a, b, rfl, hp, ha, hb, hl, k⟩ := h
  unfold t_one_part
  walk_at "rd"
  refine ix_LN (i := a) (sqL hp) ha rfl ?_
  walk_at "rd"
  refine ix_LN (i := b) (sqL hp) hb rfl ?_
  walk_at "rd"
  refine ⟨_, _, rfl, ?_⟩
  have elo : (if ((lead.getD b 0 : Nat) : Int) < ((lead.getD a 0 : Nat) : Int) then ((lead.getD b 0 : Nat) : Int) else ((lead.getD a 0 : Nat) : Int)) = ((min (lead.getD a 0) (lead.getD b 0) : Nat) : Int) := by split <;> omega
  rw [elo]
  walk_at "rd"
  refine ix_LN (i := a) (sqL hp) ha rfl ?_
  walk_at "rd"
  refine ix_LN (i := b) (sqL hp) hb rfl ?_
  walk_at "rd"
  refine ⟨_, _, rfl, ?_⟩
  have ehi : (if ((lead.getD b 0 : Nat) : Int) > ((lead.getD a 0 : Nat) : Int) then ((lead.getD b 0 : Nat) : Int) else ((lead.getD a 0 : Nat) : Int)) = ((max (lead.getD a 0) (lead.getD b 0) : Nat) : Int) := by split <;> omega
  rw [ehi]
  walk_at "rd"
  refine w_lc (w_ilist ?_)
  walk_at "ex"
  refine ⟨p, rfl, ⟨_, sqL hp⟩, fun D hD => lc_list (K := K) (a := p) (xs := vN lead) (fun i H' => Same H H' ∧ H' D = some (.lst (vN (onePart lead a b |>.take i)))) ?_ ?_ ?_ ?_⟩
  · exact ⟨(Same.refl H).new hD, by rw [List.take_zero]; exact upd_same⟩
  · rintro i H' _ ⟨s, _⟩; exact sqL (s _ _ hp)
  · rintro i z H' hz ⟨s, hv⟩
    obtain ⟨x, hx, rfl⟩ := vN_get hz
    have hx2 : (onePart lead a b)[i]? = some (if x = max (lead.getD a 0) (lead.getD b 0) then min (lead.getD a 0) (lead.getD b 0) else x) := by
      unfold onePart
      rw [List.getElem?_map, hx] <;> rfl
    have fin : ∀ v : Nat, v = (if x = max (lead.getD a 0) (lead.getD b 0) then min (lead.getD a 0) (lead.getD b 0) else x) → ∃ acc, H' D = some (.lst acc) ∧ acc.length < sizeLine ∧ Same H (upd H' D (.lst (acc ++ [.int (v : Int)]))) ∧ (upd H' D (.lst (acc ++ [.int (v : Int)]))) D = some (.lst (vN ((onePart lead a b).take (i + 1)))) := fun v ev => by
      refine ⟨_, hv, by rw [vN_len, List.length_take]; unfold onePart; rw [List.length_map]; exact zlt (by omega), s.up hD, ?_⟩
      rw [upd_same, vN_app, take_more hx2, ev]
    refine ⟨rfl, ?_⟩
    walk_at "ex"
    refine if_d (fun c => ?_) (fun c => ?_)
    · walk_at "ex"
      exact fin _ (by rw [if_pos (by omega)])
    · walk_at "ex"
      exact fin _ (by rw [if_neg (by omega)])
  · rintro H' ⟨s, hv⟩
    rw [vN_len, show lead.length = (onePart lead a b).length by unfold onePart; rw [List.length_map], List.take_length] at hv
    exact k D H' s hD hv
structure Led (moves : List (List Nat)) (p q n : Nat) (lead : List Nat) : Prop where
  len : lead.length = n
  le : ∀ x, x < n → lead.getD x 0 ≤ x
  id : ∀ x, x < n → lead.getD (lead.getD x 0) 0 = lead.getD x 0
  al : ∀ x, x < n → Alk moves p q x (lead.getD x 0)
def leads (lead : List Nat) : Nat := ((List.range lead.length).filter fun k => decide (lead.getD k 0 = k)).length
theorem onePart_get {lead : List Nat} {a b x : Nat} (hx : x < lead.length) : (onePart lead a b).getD x 0 = if lead.getD x 0 = max (lead.getD a 0) (lead.getD b 0) then min (lead.getD a 0) (lead.getD b 0) else lead.getD x 0 := by
  unfold onePart
  rw [List.getD_eq_getElem?_getD, List.getElem?_map, getD_at hx] <;> rfl
theorem onePart_len (lead : List Nat) (a b : Nat) : (onePart lead a b).length = lead.length := List.length_map ..
section
variable {moves : List (List Nat)} {p q n : Nat} {lead : List Nat}
theorem Led.one (h : Led moves p q n lead) {a b : Nat} (ha : a < n) (hb : b < n) (hab : Alk moves p q a b) : Led moves p q n (onePart lead a b) := by
  have la := h.le a ha
  have lb := h.le b hb
  have ia := h.id a ha
  have ib := h.id b hb
  have get : ∀ x, x < n → (onePart lead a b).getD x 0 = if lead.getD x 0 = max (lead.getD a 0) (lead.getD b 0) then min (lead.getD a 0) (lead.getD b 0) else lead.getD x 0 := fun x hx => onePart_get (by rw [h.len]; exact hx)
  refine ⟨by rw [onePart_len, h.len], fun x hx => ?_, fun x hx => ?_, fun x hx => ?_⟩
  · have := h.le x hx
    rw [get x hx]
    split <;> omega
  · have lx := h.le x hx
    have ix := h.id x hx
    rw [get x hx]
    split
    · -- it goes to the lesser leader
      rw [get _ (by omega)]
      rcases Nat.le_total (lead.getD a 0) (lead.getD b 0) with c | c
      · rw [Nat.min_eq_left c, Nat.max_eq_right c, ia]
        split <;> rfl
      · rw [Nat.min_eq_right c, Nat.max_eq_left c, ib]
        split <;> rfl
    · rename_i hne
      rw [get _ (by omega), ix, if_neg hne]
  · rw [get x hx]
    split
    · rename_i e
      have h1 := h.al x hx
      rw [e] at h1
      refine h1.trans ?_
      have aa := h.al a ha
      have bb := h.al b hb
      rcases Nat.le_total (lead.getD a 0) (lead.getD b 0) with c | c
      · rw [Nat.min_eq_left c, Nat.max_eq_right c]
        exact (bb.symm.trans hab.symm).trans aa
      · rw [Nat.min_eq_right c, Nat.max_eq_left c]
        exact (aa.symm.trans hab).trans bb
    · exact h.al x hx
/-- two leaders made one: fewer of them -/
theorem Led.fewer (h : Led moves p q n lead) {a b : Nat} (ha : a < n) (hb : b < n) (hne : lead.getD a 0 ≠ lead.getD b 0) : leads (onePart lead a b) < leads lead := by
  have la := h.le a ha
  have lb := h.le b hb
  have ia := h.id a ha
  have ib := h.id b hb
  have get : ∀ x, x < n → (onePart lead a b).getD x 0 = if lead.getD x 0 = max (lead.getD a 0) (lead.getD b 0) then min (lead.getD a 0) (lead.getD b 0) else lead.getD x 0 := fun x hx => onePart_get (by rw [h.len]; exact hx)
  unfold leads
  rw [onePart_len, h.len]
  have hmaxn : max (lead.getD a 0) (lead.getD b 0) < n := by omega
  have hlm : lead.getD (max (lead.getD a 0) (lead.getD b 0)) 0 = max (lead.getD a 0) (lead.getD b 0) := by
    rcases Nat.le_total (lead.getD a 0) (lead.getD b 0) with c | c
    · rw [Nat.max_eq_right c]; exact ib
    · rw [Nat.max_eq_left c]; exact ia
  have nd : (max (lead.getD a 0) (lead.getD b 0) :: (List.range n).filter fun k => decide ((onePart lead a b).getD k 0 = k)).Nodup := by
    refine List.nodup_cons.mpr ⟨fun z => ?_, List.nodup_range.filter _⟩
    have := of_decide_eq_true (List.mem_filter.mp z).2
    rw [get _ hmaxn, hlm, if_pos rfl] at this
    omega
  have := nd_sub_len nd (m := (List.range n).filter fun k => decide (lead.getD k 0 = k)) fun y hy => by
    rcases List.mem_cons.mp hy with hy | hy
    · rw [hy]; exact List.mem_filter.mpr ⟨List.mem_range.mpr hmaxn, decide_eq_true hlm⟩
    · obtain ⟨h1, h2⟩ := List.mem_filter.mp hy
      have hyn := List.mem_range.mp h1
      have h2 := of_decide_eq_true h2
      rw [get y hyn] at h2
      refine List.mem_filter.mpr ⟨h1, decide_eq_true ?_⟩
      split at h2
      · rename_i e
        -- y is the lesser leader
        rcases Nat.le_total (lead.getD a 0) (lead.getD b 0) with c | c
        · rw [Nat.min_eq_left c] at h2; rw [← h2]; exact ia
        · rw [Nat.min_eq_right c] at h2; rw [← h2]; exact ib
      · exact h2
  rw [List.length_cons] at this
  omega
end
section
variable {moves : List (List Nat)} {p q n : Nat} {lead : List Nat}
theorem Led.alk (h : Led moves p q n lead) (hm : ∀ m ∈ moves, IsP n m) (hp : p < n) (hq : q < n) (e : lead.getD p 0 = lead.getD q 0) (st : ∀ m ∈ moves, ∀ k, k < n → lead.getD (m.getD k 0) 0 = lead.getD (m.getD (lead.getD k 0) 0) 0) {x y : Nat} (hx : x < n) (hy : y < n) : Alk moves p q x y ↔ lead.getD x 0 = lead.getD y 0 := by
  constructor
  · intro a
    have key : (x < n ∧ y < n ∧ lead.getD x 0 = lead.getD y 0) ∨ x = y := by
      clear hx hy
      induction a with
      | refl x => exact .inr rfl
      | base => exact .inl ⟨hp, hq, e⟩
      | base' => exact .inl ⟨hq, hp, e.symm⟩
      | trans _ _ i1 i2 =>
        rcases i1 with ⟨a1, a2, a3⟩ | rfl
        · rcases i2 with ⟨b1, b2, b3⟩ | rfl
          · exact .inl ⟨a1, b2, a3.trans b3⟩
          · exact .inl ⟨a1, a2, a3⟩
        · exact i2
      | @move x y m _ hmm ih =>
        rcases ih with ⟨a1, a2, a3⟩ | rfl
        · refine .inl ⟨(hm m hmm).getD_lt a1, (hm m hmm).getD_lt a2, ?_⟩
          rw [st m hmm x a1, st m hmm y a2, a3]
        · exact .inr rfl
    rcases key with ⟨_, _, z⟩ | z
    · exact z
    · rw [z]
  · intro z
    have h1 := h.al x hx
    rw [z] at h1
    exact h1.trans (h.al y hy).symm
theorem Led.parts (h : Led moves p q n lead) (hm : ∀ m ∈ moves, IsP n m) (hp : p < n) (hq : q < n) (e : lead.getD p 0 = lead.getD q 0) (st : ∀ m ∈ moves, ∀ k, k < n → lead.getD (m.getD k 0) 0 = lead.getD (m.getD (lead.getD k 0) 0) 0) {r : Nat → Nat → Bool} (hr : ∀ x y, x < n → y < n → (r x y = true ↔ Alk moves p q x y)) :
    partsB n r = ((List.range n).filter fun k => decide (lead.getD k 0 = k)).map fun k => (List.range n).filter fun x => decide (lead.getD x 0 = k) := by
  have iff := fun {x y : Nat} (hx : x < n) (hy : y < n) => (hr x y hx hy).trans (h.alk hm hp hq e st hx hy)
  unfold partsB
  have e1 : ((List.range n).filter fun k => (List.range k).all fun y => !r k y) = ((List.range n).filter fun k => decide (lead.getD k 0 = k)) := by
    refine List.filter_congr fun k hk => ?_
    have hk := List.mem_range.mp hk
    have lk := h.le k hk
    rw [Bool.eq_iff_iff, List.all_eq_true, decide_eq_true_iff]
    constructor
    · intro z
      refine Decidable.byContradiction fun hne => ?_
      have := z (lead.getD k 0) (List.mem_range.mpr (by omega))
      rw [(iff hk (by omega)).mpr (h.id k hk).symm] at this
      cases this
    · intro z y hy
      have hy := List.mem_range.mp hy
      have ly := h.le y (by omega)
      cases c : r k y with
      | false => rfl
      | true =>
        have := (iff hk (show y < n by omega)).mp c
        omega
  rw [e1]
  refine List.map_congr_left fun k hk => ?_
  obtain ⟨hk1, hk2⟩ := List.mem_filter.mp hk
  have hk1 := List.mem_range.mp hk1
  have hk2 := of_decide_eq_true hk2
  refine List.filter_congr fun x hx => ?_
  have hx := List.mem_range.mp hx
  rw [Bool.eq_iff_iff, iff hk1 hx, decide_eq_true_iff, hk2]
  exact ⟨fun z => z.symm, fun z => z.symm⟩
end
def sp_parting (K : PySem.W.Frag) (g : Gd) : Sp := fun vs H Q E => ∃ (R : RA) (B : Bk) (moves : List (List Nat)) (z1 z2 : Int), vs = [.ref R.r, .int z1, .int z2] ∧ RoomAt g H R B moves ∧ (¬ (0 ≤ z1 ∧ z1 < (B.n : Int)) → E (.ref g.NoSeat) none H) ∧ (0 ≤ z1 ∧ z1 < (B.n : Int) → ¬ (0 ≤ z2 ∧ z2 < (B.n : Int)) → E (.ref g.NoSeat) none H) ∧
  ∀ p q : Nat, z1 = (p : Int) → z2 = (q : Int) → p < B.n → q < B.n → ∀ r : Nat → Nat → Bool, (∀ x y, x < B.n → y < B.n → (r x y = true ↔ Alk moves p q x y)) → NewLLN H (partsB B.n r) Q
theorem len_parting (K : PySem.W.Frag) (g : Gd) (vs : List V) (H : Hp) (Q : VK) (E : XK) (h : sp_parting K g vs H Q E) : vs.length = 3 := by obtain ⟨_, _, _, _, _, rfl, _⟩ := h; rfl
--@facts parting r_Room
abbrev N_parting : List Str := ["room", "one", "other", "moves", "lead", "again", "move", "k", "parts", "x"]
/-- parting -/
def t_parting (K : PySem.W.Frag) (g : Gd) (E : XK) : TS :=
  (tSeq (tDrop (tCallS (sp_ask_seat K g) (WE (wE E)) (tCons (tVar 0) (tCons (tVar 1) tNil))))
    (tSeq (tDrop (tCallS (sp_ask_seat K g) (WE (wE E)) (tCons (tVar 0) (tCons (tVar 2) tNil))))
    (tSeq (tAsg (tMethS g.Room "moves" (sp_Room_moves K g) (fun _ => E0) (tVar 0) tNil) (gName 3))
    (tSeq (tAsg (tCallS (sp_one_part K g) (fun _ => E0) (tCons (tLstRg (tRg1 (tFld K (tVar 0) "size"))) (tCons (tVar 1) (tCons (tVar 2) tNil)))) (gName 4))
    (tSeq (tAsg (tC (.bl true)) (gName 5))
    (tSeq (tWhile (tB (tVar 5)) (tSeq (tAsg (tC (.bl false)) (gName 5))
    (tFor (iList K (tVar 3)) (gName 6) (tFor (iRng1 (tCons (tFld K (tVar 0) "size") tNil)) (gName 7) (tIfS (tTest (tOp rNe (tOp (rIxL K) (tVar 4) (tOp (rIxT K) (tVar 6) (tVar 7))) (tOp (rIxL K) (tVar 4) (tOp (rIxT K) (tVar 6) (tOp (rIxL K) (tVar 4) (tVar 7)))))) (tSeq (tAsg (tCallS (sp_one_part K g) (fun _ => E0) (tCons (tVar 4) (tCons (tOp (rIxT K) (tVar 6) (tVar 7)) (tCons (tOp (rIxT K) (tVar 6) (tOp (rIxL K) (tVar 4) (tVar 7))) tNil)))) (gName 4))
    (tAsg (tC (.bl true)) (gName 5))) tNext)))))
    (tSeq (tAsg (tLst tNil) (gName 8))
    (tSeq (tFor (iRng1 (tCons (tFld K (tVar 0) "size") tNil)) (gName 7) (tIfS (tTest (tOp rEq (tOp (rIxL K) (tVar 4) (tVar 7)) (tVar 7))) (tDrop (tBM K "list" rAppend (tVar 8) (tCons (tLc (iRng1 (tCons (tFld K (tVar 0) "size") tNil)) (gName 9) (tTest (tOp rEq (tOp (rIxL K) (tVar 4) (tVar 9)) (tVar 7))) (tVar 9) [9]) tNil))) tNext))
    (tRet (tVar 8))))))))))
theorem ne_I2 {i j : Nat} {Q : VK} {H : Hp} (q : Q (.bl (!decide (i = j))) H) : rNe (.int (i : Int)) (.int (j : Int)) H Q := ne_I (by
  have e : decide ((i : Int) = (j : Int)) = decide (i = j) := dec_iff ⟨fun z => by omega, fun z => by omega⟩
  rw [e]; exact q)
theorem pure_parting {K : PySem.W.Frag} {g : Gd} (cR : RmC K g) (vs : List V) (H : Hp) (Q : VK) (E : XK) (h : sp_parting K g vs H Q E) : Rd1 (t_parting K g E) N_parting vs H Q := by
  obtain ⟨R, B, moves, z1, z2, rfl, hR, e1, e2, k⟩ := h
  have h16 := hR.n16
  have hmp := hR.mp
  unfold t_parting
  walk_at "rd"
  refine ⟨R, B, moves, z1, rfl, hR, fun c => e1 c, fun c1 => ?_⟩
  walk_at "rd"
  refine ⟨R, B, moves, z2, rfl, hR, fun c => e2 c1 c, fun c2 => ?_⟩
  obtain ⟨p, rfl⟩ : ∃ p : Nat, z1 = (p : Int) := ⟨z1.toNat, by omega⟩
  obtain ⟨q, rfl⟩ : ∃ q : Nat, z2 = (q : Int) := ⟨z2.toNat, by omega⟩
  have hp : p < B.n := by omega
  have hq : q < B.n := by omega
  have k := k p q rfl rfl hp hq
  clear e1 e2 c1 c2
  walk_at "rd"
  refine hR.inst (by rfl) ?_
  walk_at "rd"
  refine ⟨R, B, moves, rfl, hR, fun t H1 tv s1 ht ht1 htl => ?_⟩
  have hR1 := hR.same s1
  walk_at "rd"
  refine hR1.f_size cR ?_
  walk_at "rd"
  refine ⟨rgOk_N (by omega), fun l0 hl0 => ?_⟩
  rw [rgV_N]
  have s2 := (Same.refl H1).new (o := .lst (vN (List.range B.n))) hl0
  have hl02 : (upd H1 l0 (.lst (vN (List.range B.n)))) l0 = some (.lst (vN (List.range B.n))) := upd_same
  generalize upd H1 l0 (.lst (vN (List.range B.n))) = H2 at *
  walk_at "rd"
  refine ⟨l0, _, p, q, rfl, hl02, by rw [List.length_range]; exact hp, by rw [List.length_range]; exact hq, by rw [List.length_range]; omega, fun u0 H3 s3 hu0 hu03 => ?_⟩
  have s13 := s2.trans s3
  have L0 : Led moves p q B.n (List.range B.n) := ⟨List.length_range, fun x hx => by rw [range_getD hx]; exact Nat.le_refl _, fun x hx => by rw [range_getD hx, range_getD hx], fun x hx => by rw [range_getD hx]; exact .refl x⟩
  have L1 := L0.one hp hq .base
  have E1 : (onePart (List.range B.n) p q).getD p 0 = (onePart (List.range B.n) p q).getD q 0 := by
    rw [onePart_get (by rw [List.length_range]; exact hp), onePart_get (by rw [List.length_range]; exact hq), range_getD hp, range_getD hq]
    split <;> split <;> omega
  have ht3 := s13 _ _ ht1
  have htl3 := htl.mono s13
  have s03 := s1.trans s13
  have tH : H t = none := ht
  generalize onePart (List.range B.n) p q = lead0 at *
  clear L0
  walk_at "rd"
  refine w_while ⟨fun me σ H' => ∃ (lead : List Nat) (u : Addr) (ag : Bool) (y6 y7 : Option V), me = 2 * leads lead + (if ag = true then 1 else 0) ∧ σ = [some (.ref R.r), some (.int (p : Int)), some (.int (q : Int)), some (.ref t), some (.ref u), some (.bl ag), y6, y7, none, none] ∧ Same H3 H' ∧ H' u = some (.lst (vN lead)) ∧ Led moves p q B.n lead ∧ lead.getD p 0 = lead.getD q 0 ∧
    (ag = false → ∀ m ∈ moves, ∀ k, k < B.n → lead.getD (m.getD k 0) 0 = lead.getD (m.getD (lead.getD k 0) 0) 0), ⟨_, lead0, u0, true, none, none, rfl, rfl, Same.refl _, hu03, L1, E1, fun z => by cases z⟩, ?_⟩
  rintro me σ H4 ⟨lead, u, ag, y6, y7, rfl, rfl, s4, hu, L, E, st⟩
  walk_at "rd"
  refine if_b (fun c => ?_) (fun c => ?_)
  · subst c
    refine ⟨fun σ' H' => ∃ (lead' : List Nat) (u : Addr) (ag : Bool) (y6 y7 : Option V), 2 * leads lead' + (if ag = true then 1 else 0) < 2 * leads lead + 1 ∧ σ' = [some (.ref R.r), some (.int (p : Int)), some (.int (q : Int)), some (.ref t), some (.ref u), some (.bl ag), y6, y7, none, none] ∧ Same H3 H' ∧ H' u = some (.lst (vN lead')) ∧ Led moves p q B.n lead' ∧ lead'.getD p 0 = lead'.getD q 0 ∧
      (ag = false → ∀ m ∈ moves, ∀ k, k < B.n → lead'.getD (m.getD k 0) 0 = lead'.getD (m.getD (lead'.getD k 0) 0) 0), ?_, ?_⟩
    · rintro σ' H' ⟨lead', u, ag, y6, y7, h1, h2⟩
      exact ⟨_, by rw [if_pos rfl]; exact h1, lead', u, ag, y6, y7, rfl, h2⟩
    walk_at "rd"
    refine ⟨t, rfl, ⟨_, sqL (s4 _ _ ht3)⟩, for_list (K := K) (a := t) (xs := tv) (fun i σ H' => ∃ (l1 : List Nat) (u : Addr) (ag : Bool) (y6 y7 : Option V), σ = [some (.ref R.r), some (.int (p : Int)), some (.int (q : Int)), some (.ref t), some (.ref u), some (.bl ag), y6, y7, none, none] ∧ Same H3 H' ∧ H' u = some (.lst (vN l1)) ∧ Led moves p q B.n l1 ∧ l1.getD p 0 = l1.getD q 0 ∧
      ((ag = false ∧ l1 = lead ∧ ∀ m ∈ moves.take i, ∀ k, k < B.n → lead.getD (m.getD k 0) 0 = lead.getD (m.getD (lead.getD k 0) 0) 0) ∨ (ag = true ∧ leads l1 < leads lead))) ?_ ?_ ?_ ?_⟩
    · exact ⟨lead, u, false, _, _, rfl, s4, hu, L, E, .inl ⟨rfl, rfl, fun m hm => by rw [List.take_zero] at hm; cases hm⟩⟩
    · rintro i σ H' _ ⟨_, _, _, _, _, _, s, _⟩; exact sqL (s _ _ ht3)
    · rintro i z σ H5 hz ⟨l1, u1, ag1, y61, y71, rfl, s5, hu1, Ld1, Ed1, hd1⟩
      obtain ⟨w, m, rfl, him, hw⟩ := (htl3.mono s5).get' hz
      have hmm := List.mem_of_getElem? him
      have pm := hmp m hmm
      show tFor _ _ _ _ (List.set _ 6 (some (V.ref w))) H5
      have hR5 := hR.same (s03.trans s5)
      walk_at "rd"
      refine hR5.f_size cR ?_
      refine w_for1 (by omega) (fun k' σ H' => ∃ (l2 : List Nat) (u : Addr) (ag : Bool) (y7 : Option V), σ = [some (.ref R.r), some (.int (p : Int)), some (.int (q : Int)), some (.ref t), some (.ref u), some (.bl ag), some (.ref w), y7, none, none] ∧ Same H3 H' ∧ Same H5 H' ∧ H' u = some (.lst (vN l2)) ∧ Led moves p q B.n l2 ∧ l2.getD p 0 = l2.getD q 0 ∧
        ((ag = false ∧ l2 = lead ∧ (∀ m ∈ moves.take i, ∀ k, k < B.n → lead.getD (m.getD k 0) 0 = lead.getD (m.getD (lead.getD k 0) 0) 0) ∧ ∀ k, k < k' → lead.getD (m.getD k 0) 0 = lead.getD (m.getD (lead.getD k 0) 0) 0) ∨ (ag = true ∧ leads l2 < leads lead))) ?_ ?_ ?_
      · refine ⟨l1, u1, ag1, _, rfl, s5, Same.refl _, hu1, Ld1, Ed1, ?_⟩
        rcases hd1 with ⟨a, b, c⟩ | h
        · exact .inl ⟨a, b, c, fun k hk => absurd hk (Nat.not_lt_zero k)⟩
        · exact .inr h
      · rintro k' σ H6 hk' ⟨l2, u2, ag2, y72, rfl, s6, s56, hu2, Ld2, Ed2, hd2⟩
        have hw6 := s56 _ _ hw
        have hl2 := Ld2.len
        have lk := Ld2.le k' hk'
        have v1 : m.getD k' 0 < B.n := pm.getD_lt hk'
        have v2 : m.getD (l2.getD k' 0) 0 < B.n := pm.getD_lt (by omega)
        have evi : ∀ {R' : V → Hp → Prop}, R' (.int ((m.getD k' 0 : Nat) : Int)) H6 → rIxT K (.ref w) (.int (k' : Int)) H6 R' := fun r => ix_TN (i := k') (sqT hw6) (by rw [pm.len]; exact hk') rfl r
        have evk : ∀ {R' : V → Hp → Prop}, R' (.int ((l2.getD k' 0 : Nat) : Int)) H6 → rIxL K (.ref u2) (.int (k' : Int)) H6 R' := fun r => ix_LN (i := k') (sqL hu2) (by omega) rfl r
        have evj : ∀ {R' : V → Hp → Prop}, R' (.int ((m.getD (l2.getD k' 0) 0 : Nat) : Int)) H6 → rIxT K (.ref w) (.int ((l2.getD k' 0 : Nat) : Int)) H6 R' := fun r => ix_TN (i := l2.getD k' 0) (sqT hw6) (by rw [pm.len]; omega) rfl r
        walk_at "rd"
        refine evi ?_
        refine ix_LN (i := m.getD k' 0) (sqL hu2) (by omega) rfl ?_
        walk_at "rd"
        refine evk ?_
        refine evj ?_
        refine ix_LN (i := m.getD (l2.getD k' 0) 0) (sqL hu2) (by omega) rfl ?_
        refine ne_I2 ?_
        refine ⟨_, rfl, ?_⟩
        refine if_nd (fun c => ?_) (fun c => ?_)
        · -- two parts made one
          walk_at "rd"
          refine evi ?_
          walk_at "rd"
          refine evk ?_
          refine evj ?_
          walk_at "rd"
          refine ⟨u2, l2, m.getD k' 0, m.getD (l2.getD k' 0) 0, rfl, hu2, by omega, by omega, by omega, fun u3 H7 s7 hu3 hu37 => ?_⟩
          walk_at "rd"
          have Ld3 := Ld2.one v1 v2 (.move (Ld2.al k' hk') hmm)
          have few := Ld2.fewer v1 v2 c
          have Ed3 : (onePart l2 (m.getD k' 0) (m.getD (l2.getD k' 0) 0)).getD p 0 = (onePart l2 (m.getD k' 0) (m.getD (l2.getD k' 0) 0)).getD q 0 := by
            rw [onePart_get (by omega), onePart_get (by omega), Ed2]
          refine ⟨_, u3, true, _, rfl, s6.trans s7, s56.trans s7, hu37, Ld3, Ed3, .inr ⟨rfl, ?_⟩⟩
          rcases hd2 with ⟨_, b, _⟩ | ⟨_, b⟩
          · rw [b] at few; rw [b]; exact few
          · omega
        · walk_at "rd"
          refine ⟨l2, u2, ag2, _, rfl, s6, s56, hu2, Ld2, Ed2, ?_⟩
          rcases hd2 with ⟨a, b, c', d⟩ | h
          · refine .inl ⟨a, b, c', fun k hk => ?_⟩
            by_cases ck : k = k'
            · rw [ck, ← b]; exact c
            · exact d k (by omega)
          · exact .inr h
      · rintro σ H6 ⟨l2, u2, ag2, y72, rfl, s6, s56, hu2, Ld2, Ed2, hd2⟩
        refine ⟨l2, u2, ag2, _, _, rfl, s6, hu2, Ld2, Ed2, ?_⟩
        rcases hd2 with ⟨a, b, c, d⟩ | h
        · refine .inl ⟨a, b, fun m' hm' k hk => ?_⟩
          rw [take_more him] at hm'
          rcases List.mem_append.mp hm' with hm' | hm'
          · exact c m' hm' k hk
          · rw [List.mem_singleton.mp hm']; exact d k hk
        · exact .inr h
    · rintro σ H5 ⟨l1, u1, ag1, y61, y71, rfl, s5, hu1, Ld1, Ed1, hd1⟩
      rw [htl.len, List.take_length] at hd1
      refine ⟨l1, u1, ag1, _, _, ?_, rfl, s5, hu1, Ld1, Ed1, fun ea => ?_⟩
      · rcases hd1 with ⟨a, b, _⟩ | ⟨a, b⟩
        · rw [a, b, if_neg Bool.false_ne_true]; omega
        · rw [a, if_pos rfl]; omega
      · rcases hd1 with ⟨_, b, c⟩ | ⟨a, _⟩
        · rw [b]; exact c
        · rw [ea] at a; cases a
  · -- done: the parts
    have st := st c
    have hl := L.len
    have hpt := fun {r : Nat → Nat → Bool} (hr : ∀ x y, x < B.n → y < B.n → (r x y = true ↔ Alk moves p q x y)) => L.parts hmp hp hq E st hr
    have k := k (fun x y => decide (lead.getD x 0 = lead.getD y 0)) fun x y hx hy => by
      rw [decide_eq_true_iff]
      exact (L.alk hmp hp hq E st hx hy).symm
    rw [hpt fun x y hx hy => by rw [decide_eq_true_iff]; exact (L.alk hmp hp hq E st hx hy).symm] at k
    have s04 := s03.trans s4
    walk_at "rd"
    refine ⟨zl (Nat.zero_le _), fun o ho => ?_⟩
    have s5 := (Same.refl H4).new (o := .lst []) ho
    have ho5 : (upd H4 o (.lst [])) o = some (.lst []) := upd_same
    generalize upd H4 o (.lst []) = H5 at *
    have s05 := s04.trans s5
    walk_at "rd"
    refine (hR.same s05).f_size cR ?_
    refine w_for1 (by omega) (fun i σ H' => ∃ (vs : List V) (y7 : Option V), σ = [some (.ref R.r), some (.int (p : Int)), some (.int (q : Int)), some (.ref t), some (.ref u), some (.bl ag), y6, y7, some (.ref o), none] ∧ Same H H' ∧ H' u = some (.lst (vN lead)) ∧ H' o = some (.lst vs) ∧ LLN H H' vs (((List.range i).filter fun k => decide (lead.getD k 0 = k)).map fun k => (List.range B.n).filter fun x => decide (lead.getD x 0 = k)) ∧ (.ref o : V) ∉ vs ∧ vs.Nodup) ?_ ?_ ?_
    · exact ⟨[], _, rfl, s05, s5 _ _ hu, ho5, .nil, by simp, List.nodup_nil⟩
    · rintro i σ H6 hi ⟨vs, y7', rfl, s6, hu6, ho6, hll, hon, hnd⟩
      have hR6 := hR.same s6
      have hvl := hll.len
      rw [List.length_map] at hvl
      have hfl := List.length_filter_le (fun k => decide (lead.getD k 0 = k)) (List.range i)
      rw [List.length_range] at hfl
      walk_at "rd"
      refine ix_LN (i := i) (sqL hu6) (by omega) rfl ?_
      walk_at "rd"
      refine if_d (fun c => ?_) (fun c => ?_)
      · have c : lead.getD i 0 = i := by omega
        walk_at "rd"
        refine ⟨isL (sqL ho6), ?_⟩
        walk_at "rd"
        refine w_lc ?_
        walk_at "ex"
        refine hR6.f_size cR ?_
        walk_at "ex"
        refine ⟨_, rfl, by omega, by omega, fun D hD => lc_range (lo := 0) (n := B.n) (fun j H' => Same H6 H' ∧ H' D = some (.lst (vN ((List.range j).filter fun x => decide (lead.getD x 0 = i))))) ⟨(Same.refl H6).new hD, upd_same⟩ ?_ ?_⟩
        · rintro j H7 hj ⟨s7, hv⟩
          refine ⟨rfl, ?_⟩
          rw [Int.zero_add]
          walk_at "ex"
          refine ix_LN (i := j) (sqL (s7 _ _ hu6)) (by omega) rfl ?_
          walk_at "ex"
          refine if_d (fun cj => ?_) (fun cj => ?_)
          · walk_at "ex"
            have := List.length_filter_le (fun x => decide (lead.getD x 0 = i)) (List.range j)
            rw [List.length_range] at this
            refine ⟨_, hv, by rw [vN_len]; exact zlt (by omega), s7.up hD, ?_⟩
            rw [upd_same, vN_app, List.range_succ, List.filter_append, List.filter_cons_of_pos (by rw [decide_eq_true_iff]; omega)] <;> rfl
          · refine ⟨s7, ?_⟩
            rw [hv, List.range_succ, List.filter_append, List.filter_cons_of_neg (by rw [decide_eq_true_iff]; omega)]
            show _ = some (HO.lst (vN (_ ++ [])))
            rw [List.append_nil]
        · rintro H7 ⟨s7, hv⟩
          have ho7 := s7 _ _ ho6
          have hD6 : H D = none := s6.free hD
          have hDo : D ≠ o := fun z => by rw [z] at hD; rw [hD] at ho6; cases ho6
          have hDv : (.ref D : V) ∉ vs := fun z => by
            obtain ⟨j, hj, e⟩ := List.getElem_of_mem z
            have hj2 : j < (((List.range i).filter fun k => decide (lead.getD k 0 = k)).map fun k => (List.range B.n).filter fun x => decide (lead.getD x 0 = k)).length := by rw [List.length_map]; omega
            obtain ⟨p', e1, e2, _⟩ := hll.get (List.getElem?_eq_getElem hj2)
            rw [List.getElem?_eq_getElem hj, e] at e1
            cases e1
            rw [hD] at e2; cases e2
          walk_at "rd"
          refine app_V ho7 (by omega) ?_
          walk_at "rd"
          refine ⟨_, _, rfl, (s6.trans s7).up (s04.free ho), by rw [upd_ne (ne_of_none hu ho)]; exact s7 _ _ hu6, upd_same, ?_, ?_, ?_⟩
          · rw [List.range_succ, List.filter_append, List.filter_cons_of_pos (by rw [decide_eq_true_iff]; exact c), List.map_append]
            refine LLN.snoc ?_ hD6 (LLN.out ho7 (hll.mono s7) hon)
            rw [upd_ne hDo]; exact hv
          · rw [List.mem_append, not_or]
            exact ⟨hon, fun z => hDo (by have := List.mem_singleton.mp z; cases this; rfl)⟩
          · refine List.nodup_append.mpr ⟨hnd, by simp, fun a ha b hb e => ?_⟩
            rw [List.mem_singleton.mp hb] at e
            rw [e] at ha
            exact hDv ha
      · walk_at "rd"
        refine ⟨vs, _, rfl, s6, hu6, ho6, ?_, hon, hnd⟩
        rw [List.range_succ, List.filter_append, List.filter_cons_of_neg (by rw [decide_eq_true_iff]; omega)]
        show LLN _ _ _ (List.map _ (_ ++ []))
        rw [List.append_nil]
        exact hll
    · rintro σ H6 ⟨vs, y7', rfl, s6, hu6, ho6, hll, hon, hnd⟩
      walk_at "rd"
      exact k o H6 vs s6 (s04.free ho) ho6 hll hon hnd
end Shf

/-! swaps of neighbours: all seatings, and the even ones -/
namespace Shf
open PySem L2
theorem mr_get {n : Nat} {f : Nat → Nat} {i : Nat} (h : i < n) : ((List.range n).map f).getD i 0 = f i := by
  rw [List.getD_eq_getElem?_getD, List.getElem?_map, List.getElem?_range h] <;> rfl
theorem mr_len (n : Nat) (f : Nat → Nat) : ((List.range n).map f).length = n := by rw [List.length_map, List.length_range]
/-- the swap of k and its next -/
def sw (k i : Nat) : Nat := if i = k then k + 1 else if i = k + 1 then k else i
theorem sw_sw (k i : Nat) : sw k (sw k i) = i := by unfold sw; split <;> split <;> (try split) <;> omega
theorem sw_lt {k i n : Nat} (hk : k + 1 < n) (hi : i < n) : sw k i < n := by unfold sw; split <;> (try split) <;> omega
def adj (n k : Nat) : List Nat := (List.range n).map (sw k)
theorem adj_len (n k : Nat) : (adj n k).length = n := mr_len n _
theorem adj_get {n k i : Nat} (h : i < n) : (adj n k).getD i 0 = sw k i := mr_get h
theorem isP_mr {n : Nat} {f : Nat → Nat} (h1 : ∀ i, i < n → f i < n) (h2 : ∀ i j, i < n → j < n → f i = f j → i = j) : IsP n ((List.range n).map f) := by
  refine isP_of_nd (nd_of_getD fun i j hi hj e => ?_) (mr_len n f) fun x hx => ?_
  · rw [mr_len] at hi hj
    rw [mr_get hi, mr_get hj] at e
    exact h2 i j hi hj e
  · obtain ⟨i, hi, rfl⟩ := List.mem_map.mp hx
    exact h1 i (List.mem_range.mp hi)
theorem isP_adj {n k : Nat} (hk : k + 1 < n) : IsP n (adj n k) := isP_mr (fun i hi => sw_lt hk hi) fun i j _ _ e => by rw [← sw_sw k i, ← sw_sw k j, e]
theorem adj_adj {n k : Nat} (hk : k + 1 < n) : jn (adj n k) (adj n k) = List.range n := by
  refine ext_getD (by rw [jn_len, adj_len, List.length_range]) fun i hi => ?_
  rw [jn_len, adj_len] at hi
  rw [jn_get (by rw [adj_len]; exact hi), adj_get hi, adj_get (sw_lt hk hi), sw_sw, range_getD hi]
theorem adj_jn {n k i : Nat} {a : List Nat} (hi : i < n) : (jn (adj n k) a).getD i 0 = a.getD (sw k i) 0 := by
  rw [jn_get (by rw [adj_len]; exact hi), adj_get hi]
theorem adj_twice {n k : Nat} {a : List Nat} (pa : IsP n a) (hk : k + 1 < n) : jn (adj n k) (jn (adj n k) a) = a := by
  rw [← jn_assocP (isP_adj hk) (isP_adj hk), adj_adj hk, id_jnP pa]
/-- how many pairs stand the wrong way -/
def inv : List Nat → Nat
  | [] => 0
  | x :: l => (l.filter fun y => decide (y < x)).length + inv l
theorem inv_swap {x y : Nat} (h : x < y) (v : List Nat) : ∀ u : List Nat, inv (u ++ y :: x :: v) = inv (u ++ x :: y :: v) + 1
  | [] => by
    show ((x :: v).filter fun z => decide (z < y)).length + ((v.filter fun z => decide (z < x)).length + inv v) = ((y :: v).filter fun z => decide (z < x)).length + ((v.filter fun z => decide (z < y)).length + inv v) + 1
    rw [List.filter_cons_of_pos (by simpa using h), List.filter_cons_of_neg (by simp; omega), List.length_cons]
    omega
  | z :: u => by
    show ((u ++ y :: x :: v).filter fun t => decide (t < z)).length + inv (u ++ y :: x :: v) = ((u ++ x :: y :: v).filter fun t => decide (t < z)).length + inv (u ++ x :: y :: v) + 1
    have e : ((u ++ y :: x :: v).filter fun t => decide (t < z)).length = ((u ++ x :: y :: v).filter fun t => decide (t < z)).length := ((List.Perm.append_left u (List.Perm.swap x y v)).filter _).length_eq
    rw [e, inv_swap h v u] <;> omega
theorem cut2 {a : List Nat} {k : Nat} (h : k + 1 < a.length) : a = a.take k ++ a.getD k 0 :: a.getD (k + 1) 0 :: a.drop (k + 2) := by
  have e1 : a.getD k 0 = a[k] := by rw [List.getD_eq_getElem?_getD, List.getElem?_eq_getElem (by omega)] <;> rfl
  have e2 : a.getD (k + 1) 0 = a[k + 1] := by rw [List.getD_eq_getElem?_getD, List.getElem?_eq_getElem h] <;> rfl
  rw [e1, e2, ← List.drop_eq_getElem_cons h, ← List.drop_eq_getElem_cons (by omega), List.take_append_drop]
theorem app_getD (a b : List Nat) (i : Nat) : (a ++ b).getD i 0 = if i < a.length then a.getD i 0 else b.getD (i - a.length) 0 := by
  rw [List.getD_eq_getElem?_getD]
  by_cases h : i < a.length
  · rw [if_pos h, List.getElem?_append_left h, List.getD_eq_getElem?_getD]
  · rw [if_neg h, List.getElem?_append_right (by omega), List.getD_eq_getElem?_getD]
theorem sw_l (k : Nat) : sw k k = k + 1 := if_pos rfl
theorem sw_r (k : Nat) : sw k (k + 1) = k := by unfold sw; rw [if_neg (by omega), if_pos rfl]
theorem sw_o {k i : Nat} (h1 : i ≠ k) (h2 : i ≠ k + 1) : sw k i = i := by unfold sw; rw [if_neg h1, if_neg h2]
theorem adj_cut {n k : Nat} {a : List Nat} (hl : a.length = n) (hk : k + 1 < n) : jn (adj n k) a = a.take k ++ a.getD (k + 1) 0 :: a.getD k 0 :: a.drop (k + 2) := by
  have hle : (a.take k).length = k := by rw [List.length_take]; omega
  refine ext_getD (by rw [jn_len, adj_len, List.length_append, hle, List.length_cons, List.length_cons, List.length_drop]; omega) fun i hi => ?_
  rw [jn_len, adj_len] at hi
  rw [adj_jn hi, app_getD, hle]
  by_cases c : i < k
  · rw [if_pos c, sw_o (by omega) (by omega)]
    have e := congrArg (fun l => l.getD i 0) (cut2 (a := a) (k := k) (by omega))
    rw [show a.getD i 0 = _ from e]
    show (a.take k ++ _).getD i 0 = _
    rw [app_getD, hle, if_pos c]
  · rw [if_neg c]
    by_cases c1 : i = k
    · rw [c1, sw_l, Nat.sub_self] <;> rfl
    · by_cases c2 : i = k + 1
      · rw [c2, sw_r, Nat.add_sub_cancel_left] <;> rfl
      · rw [sw_o c1 c2]
        obtain ⟨d, rfl⟩ : ∃ d, i = k + 2 + d := ⟨i - (k + 2), by omega⟩
        rw [show k + 2 + d - k = d + 2 by omega]
        have e := congrArg (fun l => l.getD (k + 2 + d) 0) (cut2 (a := a) (k := k) (by omega))
        rw [show a.getD (k + 2 + d) 0 = _ from e]
        show (a.take k ++ _).getD (k + 2 + d) 0 = _
        rw [app_getD, hle, if_neg c, show k + 2 + d - k = d + 2 by omega] <;> rfl
theorem inv_adj {n k : Nat} {a : List Nat} (hl : a.length = n) (hk : k + 1 < n) (h : a.getD k 0 < a.getD (k + 1) 0) : inv (jn (adj n k) a) = inv a + 1 := by
  rw [adj_cut hl hk, inv_swap h]
  exact congrArg (fun l => inv l + 1) (cut2 (a := a) (k := k) (by omega)).symm
theorem inv_adj' {n k : Nat} {a : List Nat} (hl : a.length = n) (hk : k + 1 < n) (h : a.getD (k + 1) 0 < a.getD k 0) : inv a = inv (jn (adj n k) a) + 1 := by
  have e := inv_swap h (a.drop (k + 2)) (a.take k)
  rw [← cut2 (a := a) (k := k) (by omega)] at e
  rw [adj_cut hl hk, e]
/-- rising all along: at rest -/
theorem rising_rest {n : Nat} {a : List Nat} (pa : IsP n a) (h : ∀ k, k + 1 < n → ¬ a.getD (k + 1) 0 < a.getD k 0) : a = List.range n := by
  have up : ∀ k, k + 1 < n → a.getD k 0 < a.getD (k + 1) 0 := fun k hk => by
    have h1 := h k hk
    have h2 : a.getD k 0 ≠ a.getD (k + 1) 0 := fun e => by
      have := nd_getD pa.nd (by rw [pa.len]; omega) (by rw [pa.len]; omega) e
      omega
    omega
  have lo : ∀ k, k < n → k ≤ a.getD k 0 := fun k => by
    induction k with
    | zero => intro _; exact Nat.zero_le _
    | succ k ih => intro hk; have := ih (by omega); have := up k hk; omega
  have hi : ∀ d k, k + d + 1 = n → a.getD k 0 ≤ k := fun d => by
    induction d with
    | zero => intro k hk; have := pa.getD_lt (i := k) (by omega); omega
    | succ d ih => intro k hk; have := ih (k + 1) (by omega); have := up k (by omega); omega
  refine ext_getD (by rw [pa.len, List.length_range]) fun i hi' => ?_
  rw [pa.len] at hi'
  rw [range_getD hi']
  have := lo i hi'
  have := hi (n - 1 - i) i (by omega)
  omega
/-- every seating comes of swaps of neighbours, each of which puts two the wrong way -/
theorem bub_ind {n : Nat} {P : List Nat → Prop} (h0 : P (List.range n)) (hs : ∀ a k, IsP n a → k + 1 < n → a.getD k 0 < a.getD (k + 1) 0 → P a → P (jn (adj n k) a)) : ∀ a, IsP n a → P a := by
  have key : ∀ m a, inv a = m → IsP n a → P a := fun m => by
    induction m with
    | zero =>
      intro a e pa
      by_cases c : ∃ k, k + 1 < n ∧ a.getD (k + 1) 0 < a.getD k 0
      · obtain ⟨k, hk, c⟩ := c
        have := inv_adj' pa.len hk c
        omega
      · rw [rising_rest pa fun k hk hc => c ⟨k, hk, hc⟩]; exact h0
    | succ m ih =>
      intro a e pa
      by_cases c : ∃ k, k + 1 < n ∧ a.getD (k + 1) 0 < a.getD k 0
      · obtain ⟨k, hk, c⟩ := c
        have e1 := inv_adj' pa.len hk c
        have p1 := isP_jn (isP_adj hk) pa
        have := hs (jn (adj n k) a) k p1 hk (by
          rw [adj_jn (by omega), adj_jn (by omega)]
          rw [sw_l, sw_r]; exact c) (ih _ (by omega) p1)
        rw [adj_twice pa hk] at this
        exact this
      · rw [rising_rest pa fun k hk hc => c ⟨k, hk, hc⟩]; exact h0
  exact fun a pa => key _ a rfl pa
def ev (a : List Nat) : Bool := inv a % 2 == 0
theorem inv_range (n : Nat) : inv (List.range n) = 0 := by
  have : ∀ (d s : Nat), inv ((List.range d).map (s + ·)) = 0 := fun d => by
    induction d with
    | zero => intro s; rfl
    | succ d ih =>
      intro s
      rw [List.range_succ_eq_map, List.map_cons, List.map_map]
      show (List.filter _ _).length + inv _ = 0
      have e : ((s + ·) ∘ Nat.succ : Nat → Nat) = (s + 1 + ·) := by funext x; show s + (x + 1) = s + 1 + x; omega
      rw [e, ih (s + 1), List.filter_eq_nil_iff.mpr] <;> try rfl
      intro y hy
      obtain ⟨z, _, rfl⟩ := List.mem_map.mp hy
      simp
      omega
  have := this n 0
  rw [show ((0 + ·) : Nat → Nat) = id from funext fun x => Nat.zero_add x, List.map_id] at this
  exact this
theorem ev_range (n : Nat) : ev (List.range n) = true := by unfold ev; rw [inv_range] <;> rfl
theorem ev_adj {n k : Nat} {a : List Nat} (pa : IsP n a) (hk : k + 1 < n) : ev (jn (adj n k) a) = !ev a := by
  have hne : a.getD k 0 ≠ a.getD (k + 1) 0 := fun e => by
    have := nd_getD pa.nd (by rw [pa.len]; omega) (by rw [pa.len]; omega) e
    omega
  unfold ev
  rcases Nat.lt_or_gt_of_ne hne with c | c
  · rw [inv_adj pa.len hk c]
    rcases Nat.mod_two_eq_zero_or_one (inv a) with d | d
    · rw [d, show (inv a + 1) % 2 = 1 by omega] <;> rfl
    · rw [d, show (inv a + 1) % 2 = 0 by omega] <;> rfl
  · rw [inv_adj' pa.len hk c]
    rcases Nat.mod_two_eq_zero_or_one (inv (jn (adj n k) a)) with d | d
    · rw [d, show (inv (jn (adj n k) a) + 1) % 2 = 1 by omega] <;> rfl
    · rw [d, show (inv (jn (adj n k) a) + 1) % 2 = 0 by omega] <;> rfl
/-- one behind the other -/
theorem ev_jn {n : Nat} {a b : List Nat} (pa : IsP n a) (pb : IsP n b) : ev (jn a b) = (ev a == ev b) := by
  refine bub_ind (n := n) (P := fun a => ∀ b, IsP n b → ev (jn a b) = (ev a == ev b)) (fun b pb => ?_) (fun a k pa hk _ ih b pb => ?_) a pa b pb
  · rw [id_jnP pb, ev_range]; cases ev b <;> rfl
  · rw [jn_assocP (isP_adj hk) pa, ev_adj (isP_jn pa pb) hk, ih b pb, ev_adj pa hk]
    cases ev a <;> cases ev b <;> rfl
theorem ev_trn {n : Nat} {a : List Nat} (pa : IsP n a) : ev (trn a) = ev a := by
  have h := ev_jn pa (isP_trn pa)
  rw [jn_trn pa, ev_range] at h
  cases e1 : ev a <;> cases e2 : ev (trn a) <;> rw [e1, e2] at h <;> first | rfl | cases h

/-! ### under other names -/
/-- the seating row, the seats named by o -/
def nam (o x : List Nat) : List Nat := jn (jn (trn o) x) o
theorem isP_nam {n : Nat} {o x : List Nat} (po : IsP n o) (px : IsP n x) : IsP n (nam o x) := isP_jn (isP_jn (isP_trn po) px) po
theorem nam_jn {n : Nat} {o x y : List Nat} (po : IsP n o) (px : IsP n x) (py : IsP n y) : nam o (jn x y) = jn (nam o x) (nam o y) := by
  have pt := isP_trn po
  unfold nam
  rw [jn_assocP (isP_jn pt px) po, ← jn_assocP po (isP_jn pt py), ← jn_assocP po pt, jn_trn po, id_jnP py, ← jn_assocP (isP_jn pt px) py, jn_assocP pt px]
theorem nam_id {n : Nat} {o : List Nat} (po : IsP n o) : nam o (List.range n) = List.range n := by
  unfold nam
  rw [jn_idP (isP_trn po), trn_jn po]
theorem trn2 {n : Nat} {o : List Nat} (po : IsP n o) : trn (trn o) = o := (inv_uniq (isP_trn po) po (jn_trn po)).symm
theorem nam_back {n : Nat} {o x : List Nat} (po : IsP n o) (px : IsP n x) : nam (trn o) (nam o x) = x := by
  have pt := isP_trn po
  unfold nam
  rw [trn2 po, ← jn_assocP po (isP_jn pt px), ← jn_assocP po pt, jn_trn po, id_jnP px, jn_assocP px po, jn_trn po, jn_idP px]
theorem nam_back' {n : Nat} {o x : List Nat} (po : IsP n o) (px : IsP n x) : nam o (nam (trn o) x) = x := by
  have := nam_back (isP_trn po) px
  rw [trn2 po] at this
  exact this
theorem gen_nam {n : Nat} {o : List Nat} {moves : List (List Nat)} (po : IsP n o) (hm : ∀ m ∈ moves, IsP n m) {x : List Nat} (h : Gen n moves x) : Gen n (moves.map (nam o)) (nam o x) := by
  induction h with
  | one => rw [nam_id po]; exact .one
  | mul h m ih =>
    rw [nam_jn po (Gen.isP hm h) (hm _ m)]
    exact .mul ih (List.mem_map.mpr ⟨_, m, rfl⟩)
theorem gen_nam_iff {n : Nat} {o : List Nat} {moves : List (List Nat)} (po : IsP n o) (hm : ∀ m ∈ moves, IsP n m) {x : List Nat} (px : IsP n x) : Gen n (moves.map (nam o)) (nam o x) ↔ Gen n moves x := by
  refine ⟨fun h => ?_, gen_nam po hm⟩
  have h2 := gen_nam (isP_trn po) (fun m hm' => by
    obtain ⟨y, hy, rfl⟩ := List.mem_map.mp hm'
    exact isP_nam po (hm y hy)) h
  rw [nam_back po px, List.map_map] at h2
  have e : moves.map (nam (trn o) ∘ nam o) = moves := by
    conv => rhs; rw [← List.map_id moves]
    exact List.map_congr_left fun y hy => nam_back po (hm y hy)
  rw [e] at h2
  exact h2
theorem ev_nam {n : Nat} {o x : List Nat} (po : IsP n o) (px : IsP n x) : ev (nam o x) = ev x := by
  unfold nam
  rw [ev_jn (isP_jn (isP_trn po) px) po, ev_jn (isP_trn po) px, ev_trn po]
  cases ev o <;> cases ev x <;> rfl

/-! ### a swap and the ring of all -/
def cycF (n i : Nat) : Nat := if i + 1 = n then 0 else i + 1
def cyc (n : Nat) : List Nat := (List.range n).map (cycF n)
def rot (n k : Nat) : List Nat := (List.range n).map fun i => (i + k) % n
theorem isP_rot {n : Nat} (hn : 0 < n) (k : Nat) : IsP n (rot n k) := isP_mr (fun i _ => Nat.mod_lt _ hn) fun i j hi hj e => by
  have e1 := Nat.div_add_mod (i + k) n
  have e2 := Nat.div_add_mod (j + k) n
  have e : (i + k) % n = (j + k) % n := e
  rw [e] at e1
  rcases Nat.lt_trichotomy ((i + k) / n) ((j + k) / n) with c | c | c
  · have := Nat.mul_le_mul_left n (Nat.succ_le_of_lt c)
    rw [Nat.mul_succ] at this
    omega
  · rw [c] at e1; omega
  · have := Nat.mul_le_mul_left n (Nat.succ_le_of_lt c)
    rw [Nat.mul_succ] at this
    omega
theorem isP_cyc {n : Nat} : IsP n (cyc n) := isP_mr (fun i hi => by unfold cycF; split <;> omega) fun i j hi hj e => by
  unfold cycF at e
  split at e <;> split at e <;> omega
theorem rot_succ {n k : Nat} (hn : 0 < n) : jn (rot n k) (cyc n) = rot n (k + 1) := by
  refine ext_getD (by unfold rot; rw [jn_len, mr_len, mr_len]) fun i hi => ?_
  unfold rot at hi
  rw [jn_len, mr_len] at hi
  have hlt : (i + k) % n < n := Nat.mod_lt _ hn
  unfold rot
  rw [jn_get (by rw [mr_len]; exact hi), mr_get hi, mr_get hi]
  unfold cyc
  rw [mr_get hlt, ← Nat.add_assoc]
  unfold cycF
  have e := Nat.add_mod (i + k) 1 n
  split
  · rename_i c
    by_cases c1 : n = 1
    · subst c1; rw [Nat.mod_one]
    · rw [e, Nat.mod_eq_of_lt (show 1 < n by omega), c, Nat.mod_self]
  · rename_i c
    rw [e, Nat.mod_eq_of_lt (show 1 < n by omega), Nat.mod_eq_of_lt (show (i + k) % n + 1 < n by omega)]
theorem rot_gen {n : Nat} (hn : 0 < n) {moves : List (List Nat)} (hc : cyc n ∈ moves) : ∀ k, Gen n moves (rot n k)
  | 0 => by
    have : rot n 0 = List.range n := by
      unfold rot
      conv => rhs; rw [← List.map_id (List.range n)]
      exact List.map_congr_left fun x hx => Nat.mod_eq_of_lt (List.mem_range.mp hx)
    rw [this]; exact .one
  | k + 1 => by rw [← rot_succ hn]; exact .mul (rot_gen hn hc k) hc
theorem rot_adj {n k : Nat} (hk : k + 1 < n) : jn (rot n k) (adj n k) = jn (adj n 0) (rot n k) := by
  have hn : 0 < n := by omega
  refine ext_getD (by unfold rot; rw [jn_len, jn_len, mr_len, adj_len]) fun i hi => ?_
  unfold rot at hi
  rw [jn_len, mr_len] at hi
  rw [adj_jn hi, jn_get (by unfold rot; rw [mr_len]; exact hi)]
  have hs : sw 0 i < n := sw_lt (by omega) hi
  unfold rot
  rw [mr_get hi, mr_get hs, adj_get (Nat.mod_lt _ hn)]
  by_cases c0 : i = 0
  · rw [c0, sw_l, Nat.zero_add, Nat.mod_eq_of_lt (show k < n by omega), sw_l, Nat.zero_add, Nat.add_comm 1 k, Nat.mod_eq_of_lt hk]
  · by_cases c1 : i = 1
    · have e1 : (1 + k) % n = k + 1 := by rw [Nat.add_comm]; exact Nat.mod_eq_of_lt hk
      rw [c1, e1, sw_r, show sw 0 1 = 0 from sw_r 0, Nat.zero_add, Nat.mod_eq_of_lt (by omega)]
    · have e1 := Nat.div_add_mod (i + k) n
      have hlt := Nat.mod_lt (i + k) hn
      have h2 : (i + k) / n < 2 := Nat.div_lt_of_lt_mul (by omega)
      generalize (i + k) / n = d at *
      have h3 : d = 0 ∨ d = 1 := by omega
      rw [sw_o (k := 0) c0 (by omega)]
      refine sw_o ?_ ?_
      · rcases h3 with c | c
        · rw [c, Nat.mul_zero] at e1; omega
        · rw [c, Nat.mul_one] at e1; omega
      · rcases h3 with c | c
        · rw [c, Nat.mul_zero] at e1; omega
        · rw [c, Nat.mul_one] at e1; omega
theorem adj_gen {n : Nat} {moves : List (List Nat)} (hm : ∀ m ∈ moves, IsP n m) (hc : cyc n ∈ moves) (hs : adj n 0 ∈ moves) {k : Nat} (hk : k + 1 < n) : Gen n moves (adj n k) := by
  have hn : 0 < n := by omega
  have e : adj n k = jn (trn (rot n k)) (jn (adj n 0) (rot n k)) := by
    rw [← rot_adj hk, ← jn_assocP (isP_trn (isP_rot hn k)) (isP_rot hn k), trn_jn (isP_rot hn k), id_jnP (isP_adj hk)]
  rw [e]
  exact Gen.jn hm (Gen.trn hm (rot_gen hn hc k)) (Gen.jn hm (Gen.move hm hs) (rot_gen hn hc k))
/-- what has all swaps of neighbours reaches all -/
theorem gen_all {n : Nat} {moves : List (List Nat)} (hm : ∀ m ∈ moves, IsP n m) (ha : ∀ k, k + 1 < n → Gen n moves (adj n k)) : ∀ a, IsP n a → Gen n moves a :=
  bub_ind .one fun a k _ hk _ ih => Gen.jn hm (ha k hk) ih
theorem gen_swcyc {n : Nat} {moves : List (List Nat)} (hm : ∀ m ∈ moves, IsP n m) (hc : cyc n ∈ moves) (hs : adj n 0 ∈ moves) : ∀ a, IsP n a → Gen n moves a := gen_all hm fun _ hk => adj_gen hm hc hs hk

/-! ### rings of three -/
def tri (n k : Nat) : List Nat := (List.range n).map fun i => if i = k then k + 1 else if i = k + 1 then k + 2 else if i = k + 2 then k else i
theorem tri_eq {n k : Nat} (hk : k + 2 < n) : tri n k = jn (adj n (k + 1)) (adj n k) := by
  refine ext_getD (by unfold tri; rw [jn_len, mr_len, adj_len]) fun i hi => ?_
  unfold tri at hi
  rw [mr_len] at hi
  unfold tri
  rw [mr_get hi, adj_jn hi, adj_get (sw_lt (by omega) hi)]
  unfold sw
  split <;> (try split) <;> (try split) <;> (try split) <;> (try split) <;> omega
theorem isP_tri {n k : Nat} (hk : k + 2 < n) : IsP n (tri n k) := by rw [tri_eq hk]; exact isP_jn (isP_adj (by omega)) (isP_adj (by omega))
theorem two_gen {n : Nat} {moves : List (List Nat)} (hm : ∀ m ∈ moves, IsP n m) (ht : ∀ k, k + 2 < n → tri n k ∈ moves) : ∀ d i, i + d + 1 < n → Gen n moves (jn (adj n (i + d)) (adj n i))
  | 0, i, h => by rw [Nat.add_zero, adj_adj (by omega)]; exact .one
  | d + 1, i, h => by
    have ih := two_gen hm ht d i (by omega)
    have e : jn (adj n (i + (d + 1))) (adj n i) = jn (jn (adj n (i + d + 1)) (adj n (i + d))) (jn (adj n (i + d)) (adj n i)) := by
      have p1 : IsP n (adj n (i + d)) := isP_adj (by omega)
      have p2 : IsP n (adj n (i + d + 1)) := isP_adj (by omega)
      rw [jn_assocP p2 p1, ← jn_assocP p1 p1, adj_adj (by omega), id_jnP (isP_adj (by omega))] <;> rfl
    rw [e, ← tri_eq (by omega)]
    exact Gen.jn hm (Gen.move hm (ht _ (by omega))) ih
theorem trn_adj2 {n i j : Nat} (hi : i + 1 < n) (hj : j + 1 < n) : trn (jn (adj n i) (adj n j)) = jn (adj n j) (adj n i) := by
  have p1 : IsP n (adj n i) := isP_adj hi
  have p2 : IsP n (adj n j) := isP_adj hj
  refine (inv_uniq (isP_jn p1 p2) (isP_jn p2 p1) ?_).symm
  rw [jn_assocP p2 p1, ← jn_assocP p1 p1, adj_adj hi, id_jnP p2, adj_adj hj]
theorem two_gen' {n : Nat} {moves : List (List Nat)} (hm : ∀ m ∈ moves, IsP n m) (ht : ∀ k, k + 2 < n → tri n k ∈ moves) {i j : Nat} (hi : i + 1 < n) (hj : j + 1 < n) : Gen n moves (jn (adj n i) (adj n j)) := by
  rcases Nat.le_total i j with c | c
  · have := two_gen hm ht (j - i) i (by omega)
    rw [show i + (j - i) = j by omega] at this
    rw [← trn_adj2 hj hi]
    exact Gen.trn hm this
  · have := two_gen hm ht (i - j) j (by omega)
    rw [show j + (i - j) = i by omega] at this
    exact this
theorem gen_even {n : Nat} (hn : 2 ≤ n) {moves : List (List Nat)} (hm : ∀ m ∈ moves, IsP n m) (ht : ∀ k, k + 2 < n → tri n k ∈ moves) : ∀ a, IsP n a → (ev a = true → Gen n moves a) ∧ (ev a = false → Gen n moves (jn (adj n 0) a)) := by
  refine bub_ind ⟨fun _ => .one, fun h => by rw [ev_range] at h; cases h⟩ fun a k pa hk _ ih => ⟨fun h => ?_, fun h => ?_⟩
  · rw [ev_adj pa hk] at h
    have := ih.2 (by cases e : ev a with | false => rfl | true => rw [e] at h; cases h)
    have e : jn (adj n k) a = jn (jn (adj n k) (adj n 0)) (jn (adj n 0) a) := by
      rw [jn_assocP (isP_adj hk) (isP_adj (by omega)), adj_twice pa (by omega)]
    rw [e]
    exact Gen.jn hm (two_gen' hm ht hk (by omega)) this
  · rw [ev_adj pa hk] at h
    have := ih.1 (by cases e : ev a with | true => rfl | false => rw [e] at h; cases h)
    rw [← jn_assocP (isP_adj (by omega)) (isP_adj hk)]
    exact Gen.jn hm (two_gen' hm ht (by omega) hk) this
theorem ev_tri {n k : Nat} (hk : k + 2 < n) : ev (tri n k) = true := by
  rw [tri_eq hk, ev_adj (isP_adj (by omega)) (by omega)]
  have e : ev (adj n k) = false := by
    have := ev_adj (a := List.range n) (isP_id n) (k := k) (by omega)
    rw [jn_idP (isP_adj (by omega)), ev_range] at this
    exact this
  rw [e] <;> rfl
theorem even_of_gen {n : Nat} {moves : List (List Nat)} (hm : ∀ m ∈ moves, IsP n m) (he : ∀ m ∈ moves, ev m = true) {a : List Nat} (h : Gen n moves a) : ev a = true := by
  induction h with
  | one => exact ev_range n
  | mul h m ih => rw [ev_jn (Gen.isP hm h) (hm _ m), ih, he _ m] <;> rfl
end Shf

/-! the number of a seating among all, among the even ones -/
namespace Shf
open PySem L2
theorem permsF_perm : ∀ (f : Nat) (l a : List Nat), l.length = f → a ∈ permsF f l → a.Perm l
  | 0, l, a, hl, h => by
    have h : a ∈ [[]] := h
    rw [List.mem_singleton.mp h, List.length_eq_zero_iff.mp hl]
  | f + 1, l, a, hl, h => by
    have h : a ∈ l.flatMap fun x => (permsF f (l.erase x)).map (x :: ·) := h
    obtain ⟨x, hx, h⟩ := List.mem_flatMap.mp h
    obtain ⟨b, hb, rfl⟩ := List.mem_map.mp h
    have := permsF_perm f (l.erase x) b (by rw [List.length_erase_of_mem hx, hl] <;> rfl) hb
    exact (this.cons x).trans (List.perm_cons_erase hx).symm
theorem lex_cons {x : Nat} {a b : List Nat} : LexLt a b → LexLt (x :: a) (x :: b) := fun ⟨k, k1, k2, k3⟩ => ⟨k + 1, Nat.succ_lt_succ k1, fun t ht => by
  cases t with
  | zero => rfl
  | succ t => exact k2 t (by omega), k3⟩
theorem permsF_lex : ∀ (f : Nat) (l : List Nat), l.length = f → l.Pairwise (· < ·) → (permsF f l).Pairwise LexLt
  | 0, _, _, _ => List.pairwise_singleton _ _
  | f + 1, l, hl, hs => by
    show (l.flatMap fun x => (permsF f (l.erase x)).map (x :: ·)).Pairwise LexLt
    have ih : ∀ x ∈ l, (permsF f (l.erase x)).Pairwise LexLt := fun x hx => permsF_lex f _ (by rw [List.length_erase_of_mem hx, hl] <;> rfl) (hs.sublist List.erase_sublist)
    have key : ∀ r : List Nat, (∀ x ∈ r, x ∈ l) → r.Pairwise (· < ·) → (r.flatMap fun x => (permsF f (l.erase x)).map (x :: ·)).Pairwise LexLt := by
      intro r
      induction r with
      | nil => intro _ _; exact List.Pairwise.nil
      | cons x r ihr =>
        intro hr hp
        obtain ⟨r1, r2⟩ := List.pairwise_cons.mp hp
        rw [List.flatMap_cons]
        refine List.pairwise_append.mpr ⟨?_, ihr (fun q hq => hr q (List.mem_cons_of_mem _ hq)) r2, fun a ha b hb => ?_⟩
        · exact List.pairwise_map.mpr ((ih x (hr x List.mem_cons_self)).imp fun h => lex_cons h)
        · obtain ⟨q, hq, hb⟩ := List.mem_flatMap.mp hb
          obtain ⟨a', _, rfl⟩ := List.mem_map.mp ha
          obtain ⟨b', _, rfl⟩ := List.mem_map.mp hb
          exact ⟨0, Nat.succ_pos _, fun t ht => absurd ht (Nat.not_lt_zero t), r1 q hq⟩
    exact key l (fun _ h => h) hs
theorem range_lt (n : Nat) : (List.range n).Pairwise (· < ·) := List.pairwise_lt_range
end Shf

/-! whole rooms of many seats: what is walked; law k22 -/
namespace Shf
open PySem L2
theorem rgV_N2 (i n : Nat) : rgV (i : Int) (n : Int) = vN ((List.range (n - i)).map (i + ·)) := by
  show (List.range ((n : Int) - (i : Int)).toNat).map _ = ((List.range (n - i)).map _).map _
  rw [List.map_map, show ((n : Int) - (i : Int)).toNat = n - i by omega]
  exact List.map_congr_left fun x _ => by show V.int _ = V.int _; rw [Int.natCast_add]
theorem vN_cat (a b : List Nat) : vN a ++ vN b = vN (a ++ b) := (List.map_append ..).symm
theorem cat_N {H : Hp} {Q : VK} {l m : Addr} {a b : List Nat} (hl : H l = some (.lst (vN a))) (hb : H m = some (.lst (vN b))) (hz : a.length + b.length ≤ 100000) (k : ∀ p, H p = none → Q (.ref p) (upd H p (.lst (vN (a ++ b))))) : rCat (.ref l) (.ref m) H Q :=
  ⟨l, m, vN a, vN b, rfl, rfl, hl, hb, by rw [vN_len, vN_len]; exact zl hz, fun p hp => by rw [vN_cat]; exact k p hp⟩
theorem idx_N {K : PySem.W.Frag} {H : Hp} {Q : VK} {p : Addr} {a : List Nat} {x : Nat} (h : SqL K H p (vN a)) (hx : x ∈ a) (q : Q (.int ((a.idxOf x : Nat) : Int)) H) : rIndex K (.ref p) [.int (x : Int)] H Q := by
  refine ⟨p, vN a, .int (x : Int), a.idxOf x, .int (x : Int), rfl, rfl, h, rfl, ?_, vN_at ?_, by simp [eqV], fun m z hm hz => ?_, q⟩
  · rw [List.all_eq_true]
    intro v hv
    obtain ⟨y, _, rfl⟩ := List.mem_map.mp hv
    rfl
  · rw [List.getElem?_eq_getElem (List.idxOf_lt_length_of_mem hx), List.getElem_idxOf]
  · obtain ⟨y, hy, rfl⟩ := vN_get hz
    have hm' : m < a.findIdx (· == x) := hm
    have hml : m < a.length := (List.getElem?_eq_some_iff.mp hy).1
    have := List.not_of_lt_findIdx hm'
    have ey : a[m] = y := (List.getElem?_eq_some_iff.mp hy).2
    rw [ey] at this
    have hne : y ≠ x := beq_eq_false_iff_ne.mp this
    have : ((y : Nat) : Int) ≠ ((x : Nat) : Int) := fun e => hne (by omega)
    simp [eqV, this]
theorem w_rgB {ta tb : TE} {σ : L2.St} {H : Hp} {QR : Int → Int → Hp → Prop} (h : ta σ H fun x H1 => tb σ H1 fun y H2 => ∃ i j, x = .int i ∧ y = .int j ∧ QR i j H2) : tRg2 ta tb σ H QR := h
end Shf

/-! law k22 -/
namespace Shf
open PySem L2
theorem range1_getD {s d i : Nat} (h : i < d) : ((List.range d).map (s + ·)).getD i 0 = s + i := mr_get h
theorem adj0_eq {n : Nat} (hn : 2 ≤ n) : [1, 0] ++ (List.range (n - 2)).map (2 + ·) = adj n 0 := by
  refine ext_getD (by rw [List.length_append, mr_len, adj_len]; show 2 + (n - 2) = n; omega) fun i hi => ?_
  rw [List.length_append, mr_len] at hi
  have hi : i < 2 + (n - 2) := hi
  rw [app_getD, adj_get (by omega)]
  by_cases c0 : i = 0
  · subst c0; rw [if_pos (by decide)] <;> rfl
  · by_cases c1 : i = 1
    · subst c1; rw [if_pos (by decide)] <;> rfl
    · rw [if_neg (by show ¬ i < 2; omega), sw_o (by omega) (by omega)]
      show ((List.range (n - 2)).map (2 + ·)).getD (i - 2) 0 = i
      rw [range1_getD (by omega)]
      omega
theorem cyc_get {n i : Nat} (h : i < n) : (cyc n).getD i 0 = cycF n i := mr_get h
theorem cyc_len (n : Nat) : (cyc n).length = n := mr_len n _
theorem cyc_eq {n : Nat} (hn : 1 ≤ n) : (List.range (n - 1)).map (1 + ·) ++ [0] = cyc n := by
  refine ext_getD (by rw [List.length_append, mr_len, cyc_len]; show n - 1 + 1 = n; omega) fun i hi => ?_
  rw [List.length_append, mr_len] at hi
  have hi : i < n - 1 + 1 := hi
  rw [app_getD, cyc_get (by omega), mr_len]
  unfold cycF
  by_cases c : i + 1 = n
  · rw [if_neg (by omega), if_pos c, show i - (n - 1) = 0 by omega] <;> rfl
  · rw [if_pos (by omega), if_neg c, range1_getD (by omega)]
    omega
end Shf

/-! a room that holds seats: sets of numbers; mathematics -/
namespace Shf
open PySem L2
section
open PySem.Spec PyProof.Rows
section
variable {P : Program} {w : World} {A : Around} {E : Value → Shared → Prop} {s : Shared}
/-- the empty set that a call of set begins with -/
abbrev set0 (w : World) : Obj := { cls := .type "set", dict := none, data := .set #[] 0 (.fresh 0 0 (!w.params.followText "set-order")) }
set_option maxHeartbeats 6400000 in
/-- set(xs) of a list of numbers -/
theorem set_of_ints {l : Addr} {items : Array Value} (ns : List Int) {Q : Value → Shared → Prop} (hh : A.handled = none) (hl : s.heap.IsList l items) (hit : IntsAre items.toList ns) (hb : ns.length + 1 < scanBound)
    (h : ∀ (h' : Heap) (tk c : Nat), SetR w h' s.heap.objs.size (fun j => decide (j ∈ ns)) c → c ≤ ns.length → (∀ b o, s.heap.get? b = some o → h'.get? b = some o) → Q (.ref s.heap.objs.size) { s with heap := h', toks := tk }) :
    wpAny (model P w) A (call (.type "set") [.ref l]) Q E s := by
  have hsz : items.size = ns.length := by have q := IntsAre.length hit; rwa [Array.length_toList] at q
  have ⟨m0, m1, m2⟩ := F.called_set.mro
  have q1 := F.called_set.made
  have q2 := F.called_set.sub
  have q3 := F.called_set.notType
  have q4 := F.called_set.canCreate
  have q5 := F.typeCall_set_1 (.ref l)
  refine wpAny_call (codeAny_of_tree (show wpAny _ _ (callAny (.type "set") _) _ _ _ from wpAny_pure ⟨Code.quiet_builtin _ (by decide +kernel), codeAny_builtin F.entry_type_call ?_⟩))
  rw [Around.under_plain (weight_type_call_type "set" [.ref l] []) rfl]
  repeat (any_goals (first | assumption | wp_step))
  refine codeAny_mono (code_set_led1 (.ref l) (E := E) (Q₁ := fun v z => v = .ref s.heap.objs.size ∧ z = { s with heap := s.heap.push (set0 w) }) ⟨rfl, rfl⟩) fun r z hr => ?_
  match r, hr with
  | .error e, hr => exact hr
  | .ok .next, hr => exact hr.elim
  | .ok .brk, hr => exact hr.elim
  | .ok .cont, hr => exact hr.elim
  | .ok (.ret v), hr =>
    obtain ⟨rfl, rfl⟩ := hr
    have e0 : (s.heap.push (set0 w)).get? s.heap.objs.size = some (set0 w) := Heap.get?_push_size _ rfl
    have ty : Shared.TypeIs { s with heap := s.heap.push (set0 w) } (.ref s.heap.objs.size) "set" := ⟨_, e0, rfl⟩
    have q6 := F.called_set.init.lookup
    have q7 := F.called_set.init.bind (.ref s.heap.objs.size)
    repeat (any_goals (first | assumption | wp_step))
    refine codeAny_mono (codeAny_call_builtin (R := wants (fun v z => v = .none ∧ ∃ h' tk c, z = { s with heap := h', toks := tk } ∧ SetR w h' s.heap.objs.size (fun j => decide (j ∈ ns)) c ∧ c ≤ ns.length ∧ (∀ b o, s.heap.get? b = some o → h'.get? b = some o)) E)
      F.called_set.init.plain F.entry_set_init (check_set_init_1 ty ?_)) fun r z hr => ?_
    · obtain ⟨⟨oc, od, oe, os⟩, ol, rfl, nl, rfl⟩ := hl
      have ol1 : (s.heap.push (set0 w)).get? l = some { cls := .type "list", dict := od, data := .seq items nl, slots := os } := Heap.get?_push_of_some _ ol
      have q8 := F.sub_list_set
      have q9 := F.sub_list_frozenset
      have qa : (Value.type "list" == Value.type "dict") = false := by decide
      have hl1 : (s.heap.push (set0 w)).IsList l items := ⟨_, ol1, rfl, nl, rfl⟩
      unfold Builtin.«set.__init__» noKeywords Builtin.Frozenset.updateFrom
      generalize eI : pyIter = PI
      wp_walk
      subst eI
      refine wpAny_pyIter_list hl1 (wpAny_bind (wpAny_runValue ?_))
      have lt := Heap.lt_size ol
      have hn3 : A.in1.in1.in1.handled = none := hh
      have ez : (s.heap.push (set0 w)).objs.size = s.heap.objs.size + 1 := Heap.size_push ..
      refine set_update_ints ((Walks.list hn3 (s.heap.push (set0 w)).objs.size l (by rw [ez]; exact Nat.ne_of_lt (Nat.lt_succ_of_lt lt)) items).toS) s.heap.objs.size (by rw [ez]; simp only [List.mem_cons, List.not_mem_nil, or_false, not_or]; exact ⟨Nat.ne_of_lt (Nat.lt_succ_self _), Nat.ne_of_gt lt⟩) ns hsz hb (fun i v hv => ?_) (items.size - 0) 0 _ (by omega) (Nat.zero_le _) ⟨⟨_, Heap.get?_push_size _ rfl, rfl, rfl⟩, hl1.push _⟩ ⟨0, Nat.le_refl 0, setR_new_at (Heap.get?_push_of_some _ e0)⟩ fun z c hm hc hS => ?_
      · have hi : i < ns.length := by rw [← hsz]; exact (Array.getElem?_eq_some_iff.mp hv).1
        obtain ⟨t, e⟩ := IntsAre.int_at hit i v (by rw [Array.getElem?_toList]; exact hv)
        exact ⟨ns[i], t, List.getElem?_eq_getElem hi, by rw [e, List.getD_eq_getElem?_getD, List.getElem?_eq_getElem hi] <;> rfl⟩
      · have ez2 := Moved.eq_with hm
        show wpAny _ _ _ _ _ _
        refine wpAny_pure ?_
        show wpAny _ _ (ret Value.none) _ _ _
        refine wpAny_pure ⟨rfl, z.heap, z.toks, c, ez2, hS, by omega, fun b o e => ?_⟩
        have hb := Heap.lt_size e
        exact hm.heap b o (by rw [ez]; simp only [List.mem_cons, List.not_mem_nil, or_false, not_or]; exact ⟨Nat.ne_of_lt hb, Nat.ne_of_lt (Nat.lt_succ_of_lt hb)⟩) (Heap.get?_push_of_some _ (Heap.get?_push_of_some _ e))
    · match r, hr with
      | .error e, hr => exact hr
      | .ok .next, hr => exact hr.elim
      | .ok .brk, hr => exact hr.elim
      | .ok .cont, hr => exact hr.elim
      | .ok (.ret v), hr =>
        obtain ⟨rfl, h', tk, c, rfl, g1, g2, g3⟩ := hr
        repeat (any_goals (first | assumption | wp_step))
        exact h _ _ _ g1 g2 g3
end
variable {X : Cx} {a : Expr} {ta : TE} {p p2 pos q : Pos}
/-- sorted(set(xs)), xs a list of fewer than 60 numbers -/
def tSortSet (K : PySem.W.Frag) (ta : TE) : TE := fun σ H Q => ta σ H fun x H1 => ∃ l ns, x = .ref l ∧ SqL K H1 l (vI ns) ∧ ns.length < 60 ∧
  ∀ (out : List Int) (r : Addr), out.Pairwise (· < ·) → (∀ k : Int, k ∈ out ↔ k ∈ ns) → H1 r = none → Q (.ref r) (upd H1 r (.lst (vI out)))
/-- len(set(xs)) -/
def tLenSetI (K : PySem.W.Frag) (ta : TE) : TE := fun σ H Q => ta σ H fun x H1 => ∃ l ns, x = .ref l ∧ SqL K H1 l (vI ns) ∧ ns.length < 60 ∧
  ∀ L : List Int, L.Nodup → (∀ k : Int, k ∈ L ↔ k ∈ ns) → Q (.int (L.length : Nat)) H1
theorem pe_sortSet (hc : X.calm = true) (hg : Gl X "sorted") (hm : X.mg "sorted" = none) (hg2 : Gl X "set") (hm2 : X.mg "set" = none) (ha : PE X a ta)
    (na : starEach [a] X.env = (false, eval a X.env) :: starEach [] X.env := by rfl) : PE X (.Call (.Name "sorted" p) [.Call (.Name "set" p2) [a] [] q] [] pos) (tSortSet X.K ta) := by
  refine ⟨fun pins s σ H Q I h => ?_⟩
  refine Call_ (ld_blt I hg hm boot_sorted (callWith_builtin1 (args_cons ?_ rfl) rfl rfl))
  refine Call_ (ld_blt I hg2 hm2 boot_set (callWith_type1 (args_cons (thn (ha.run pins s σ H _ I h) fun v s1 ⟨x, H1, I1, r1, q1⟩ => args_nil ?_) na) na rfl))
  obtain ⟨l, ns, rfl, hs, h60, k⟩ := q1
  cases r1
  obtain ⟨its, rv, pl, hz⟩ := I1.list hs
  refine set_of_ints ns (I1.ok.hd hc) pl.isList (by simpa using ints_of_vals rv) (by unfold scanBound; omega) fun h' tk c hS hcl hk => ?_
  have I2 : Inv X pins σ H1 { s1 with heap := h', toks := tk } := I1.kept hk
  refine args_nil ?_
  refine sorted_set hS (I2.ok.hd hc) (by omega) fun s' r out c2 ms k2 g o hp hg' hi hso hmem hl => ?_
  have hlen : (ms.map V.int).length ≤ sizeLine := by rw [List.length_map, hl, sizeLine_eq]; omega
  have hn : H1 r = none := I2.hok.fresh hp
  have J : Inv X pins σ (upd H1 r (.lst (ms.map V.int))) { ({ s1 with heap := h', toks := tk } : Shared) with heap := s'.heap, gens := s'.gens, drawn := s'.drawn, toks := s'.toks } :=
    I2.call (ch := []) (Un.laid k2 hp hn) (I2.hok.laid k2 hp ⟨hlen, out.toList, c2, vals_of_ints hi, hg'⟩) (by rw [g]; exact I2.bare) (fun _ z => nomatch z)
  have e : s' = { s1 with heap := s'.heap, gens := s'.gens, drawn := s'.drawn, toks := s'.toks } := by
    obtain ⟨_, _, _, _, _⟩ := s'
    obtain ⟨_, _, _, _, _⟩ := s1
    cases o
    rfl
  rw [e]
  exact ⟨.ref r, _, J, rfl, k ms r hso (fun z => (hmem z).trans decide_eq_true_iff) hn⟩
theorem pe_lenSetI (hc : X.calm = true) (hg : Gl X "len") (hm : X.mg "len" = none) (hg2 : Gl X "set") (hm2 : X.mg "set" = none) (ha : PE X a ta)
    (na : starEach [a] X.env = (false, eval a X.env) :: starEach [] X.env := by rfl) : PE X (.Call (.Name "len" p) [.Call (.Name "set" p2) [a] [] q] [] pos) (tLenSetI X.K ta) := by
  refine ⟨fun pins s σ H Q I h => ?_⟩
  refine Call_ (ld_blt I hg hm boot_len (callWith_builtin1 (args_cons ?_ rfl) rfl rfl))
  refine Call_ (ld_blt I hg2 hm2 boot_set (callWith_type1 (args_cons (thn (ha.run pins s σ H _ I h) fun v s1 ⟨x, H1, I1, r1, q1⟩ => args_nil ?_) na) na rfl))
  obtain ⟨l, ns, rfl, hs, h60, k⟩ := q1
  cases r1
  obtain ⟨its, rv, pl, hz⟩ := I1.list hs
  refine set_of_ints ns (I1.ok.hd hc) pl.isList (by simpa using ints_of_vals rv) (by unfold scanBound; omega) fun h' tk c hS hcl hk => ?_
  have I2 : Inv X pins σ H1 { s1 with heap := h', toks := tk } := I1.kept hk
  refine args_nil ?_
  obtain ⟨o, es, ep, t, ho, hex, hd, _, nd, hmem, _, hf, hn, _, _⟩ := hS
  refine call_len_set ho hex hd hf (by rw [hn]; omega) ⟨.int ((es.toList.map keyOf).length : Nat), H1, I2.tok _, ⟨_, by rw [List.length_map, Array.length_toList]⟩, k _ nd fun z => (hmem z).symm.trans decide_eq_true_iff⟩
end

end Shf

/-! a room that holds seats: mathematics -/
namespace Shf
open PySem L2
/-! ### mathematics -/
section
variable {B : Bk} {ms : List (List Nat)} {n : Nat}
/-- the entries of the rows from h on -/
def tabF (B : Bk) (h : Nat) : List (List Nat) := ((tab B).drop h).flatten
theorem tab_at {B : Bk} {i : Nat} {ts : List (List Nat)} (h : (tab B)[i]? = some ts) : i < B.n ∧ ts = tabRow B i := by
  have hi : i < B.n := by have := (List.getElem?_eq_some_iff.mp h).1; rw [tab_len] at this; exact this
  rw [tab_get hi] at h
  exact ⟨hi, (Option.some.inj h).symm⟩
theorem tabF_mem {h : Nat} {x : List Nat} : x ∈ tabF B h ↔ ∃ k, h ≤ k ∧ k < B.n ∧ x ∈ tabRow B k := by
  unfold tabF
  rw [List.mem_flatten]
  constructor
  · intro ⟨ts, hts, hx⟩
    obtain ⟨i, hi⟩ := List.mem_iff_getElem?.mp hts
    rw [List.getElem?_drop] at hi
    obtain ⟨h1, rfl⟩ := tab_at hi
    exact ⟨h + i, Nat.le_add_right _ _, h1, hx⟩
  · intro ⟨k, h1, h2, hx⟩
    refine ⟨tabRow B k, List.mem_iff_getElem?.mpr ⟨k - h, ?_⟩, hx⟩
    rw [List.getElem?_drop, show h + (k - h) = k by omega]
    exact tab_get h2
theorem entry_all (ok : BkOk B ms) {k : Nat} (hk : k < B.n) {x : List Nat} (hx : x ∈ tabRow B k) : IsP B.n x ∧ Fix k x ∧ Sk B k x := by
  obtain ⟨j, i, hg, rfl⟩ := (tabRow_mem ok hk).mp hx
  have s := Sk.entry ok hk hg
  exact ⟨s.isP ok, s.fix ok, s⟩
theorem tabF_P (ok : BkOk B ms) {h : Nat} : ∀ x ∈ tabF B h, IsP B.n x := fun x hx => by
  obtain ⟨k, _, hk, hx⟩ := tabF_mem.mp hx
  exact (entry_all ok hk hx).1
theorem sk_tab (ok : BkOk B ms) {h : Nat} {k : Nat} {a : List Nat} (s : Sk B k a) : h ≤ k → Gen B.n (tabF B h) a := by
  induction s with
  | last => intro _; exact .one
  | step hk hg s ih =>
    intro hle
    exact .mul (ih (by omega)) (tabF_mem.mpr ⟨_, hle, hk, (tabRow_mem ok hk).mpr ⟨_, _, hg, rfl⟩⟩)
theorem tabF_gen (C : Closed B ms) (hm : ∀ m ∈ ms, IsP B.n m) {h : Nat} (hh : h ≤ B.n) {a : List Nat} : Gen B.n (tabF B h) a ↔ Gen B.n ms a ∧ Fix h a := by
  have ok := C.ok
  constructor
  · intro g
    have pa := Gen.isP (tabF_P ok) g
    induction g with
    | one => exact ⟨.one, fix_id _ _ hh⟩
    | mul g m ih =>
      have p1 := Gen.isP (tabF_P ok) g
      obtain ⟨g1, g2⟩ := ih p1
      obtain ⟨k, h1, hk, hx⟩ := tabF_mem.mp m
      obtain ⟨px, fx, sx⟩ := entry_all ok hk hx
      exact ⟨Gen.jn hm g1 (sk_gen C hm (sx.down ok k 0 (by omega))), g2.jn p1 hh fun y hy => fx y (by omega)⟩
  · intro ⟨g, f⟩
    exact sk_tab ok ((gen_sk C hm g).up ok (Nat.zero_le _) hh f) (Nat.le_refl _)
theorem gen_filter {l : List (List Nat)} (hl : ∀ m ∈ l, IsP n m) {a : List Nat} : Gen n (l.filter fun x => !decide (x = List.range n)) a ↔ Gen n l a := by
  constructor
  · exact Gen.mono fun m hm => (List.mem_filter.mp hm).1
  · intro g
    induction g with
    | one => exact .one
    | mul g m ih =>
      rename_i b x
      by_cases c : x = List.range n
      · rw [c, jn_idP (Gen.isP hl g)]; exact ih
      · exact .mul ih (List.mem_filter.mpr ⟨m, by rw [decide_eq_false c] <;> rfl⟩)
/-- the seats that are held, and then the others -/
def ordL (hs : List Nat) (n : Nat) : List Nat := hs ++ (List.range n).filter fun x => !decide (x ∈ hs)
theorem isP_ord {hs : List Nat} (nd : hs.Nodup) (hlt : ∀ x ∈ hs, x < n) : IsP n (ordL hs n) := by
  refine (List.perm_ext_iff_of_nodup (List.nodup_append.mpr ⟨nd, List.nodup_range.filter _, fun a ha b hb e => ?_⟩) List.nodup_range).mpr fun x => ?_
  · subst e
    have := (List.mem_filter.mp hb).2
    rw [decide_eq_true ha] at this
    cases this
  · rw [List.mem_append, List.mem_filter, List.mem_range]
    constructor
    · rintro (h | h)
      · exact hlt x h
      · exact h.1
    · intro h
      by_cases c : x ∈ hs
      · exact .inl c
      · exact .inr ⟨h, by rw [decide_eq_false c] <;> rfl⟩
theorem ord_get {hs : List Nat} {i : Nat} (hi : i < hs.length) : (ordL hs n).getD i 0 = hs.getD i 0 := by
  unfold ordL
  rw [app_getD, if_pos hi]
/-- the moves of the room under the seats' new names, those of the room that holds them -/
def nmM (B : Bk) (hs : List Nat) : List (List Nat) := (tabF B 0).map (nam (trn (ordL hs B.n)))
def hdM (B2 : Bk) (hs : List Nat) : List (List Nat) := ((tabF B2 hs.length).filter fun x => !decide (x = List.range B2.n)).map (nam (ordL hs B2.n))
theorem hold_gen {B2 : Bk} {hs : List Nat} (nd : hs.Nodup) (hlt : ∀ x ∈ hs, x < B.n) (C : Closed B ms) (hm : ∀ m ∈ ms, IsP B.n m) (e2 : B2.n = B.n) (C2 : Closed B2 (nmM B hs)) (hm2 : ∀ m ∈ nmM B hs, IsP B2.n m) {x : List Nat} (px : IsP B.n x) :
    Gen B.n (hdM B2 hs) x ↔ Gen B.n ms x ∧ ∀ s ∈ hs, x.getD s 0 = s := by
  have po := isP_ord nd hlt
  have pt := isP_trn po
  have py := isP_nam pt px
  have hl : hs.length ≤ B.n := by
    have := po.len
    unfold ordL at this
    rw [List.length_append] at this
    omega
  have pf : ∀ m ∈ tabF B2 hs.length, IsP B.n m := fun m hm' => by rw [← e2]; exact tabF_P C2.ok m hm'
  have e1 : x = nam (ordL hs B.n) (nam (trn (ordL hs B.n)) x) := (nam_back' po px).symm
  have h1 : Gen B.n (hdM B2 hs) x ↔ Gen B.n (tabF B2 hs.length) (nam (trn (ordL hs B.n)) x) := by
    unfold hdM
    conv => lhs; rw [e1]
    rw [e2, gen_nam_iff po (fun m hm' => pf m (List.mem_filter.mp hm').1) py, gen_filter pf]
  have h2 := tabF_gen (a := nam (trn (ordL hs B.n)) x) C2 hm2 (h := hs.length) (by rw [e2]; exact hl)
  rw [e2] at h2
  have h3 : Gen B.n (nmM B hs) (nam (trn (ordL hs B.n)) x) ↔ Gen B.n ms x := by
    unfold nmM
    rw [gen_nam_iff pt (tabF_P C.ok) px, tabF_gen C hm (Nat.zero_le _)]
    exact ⟨fun h => h.1, fun h => ⟨h, fun y hy => absurd hy (Nat.not_lt_zero y)⟩⟩
  rw [h1, h2, h3]
  refine and_congr_right fun _ => ?_
  have key : ∀ i, i < hs.length → ((nam (trn (ordL hs B.n)) x).getD i 0 = i ↔ x.getD (hs.getD i 0) 0 = hs.getD i 0) := fun i hi => by
    have hin : i < B.n := by omega
    have ho := po.getD_lt hin
    unfold nam
    rw [trn2 po, jn_get (by rw [jn_len, po.len]; exact hin), jn_get (by rw [po.len]; exact hin), ← ord_get (n := B.n) hi]
    constructor
    · intro e
      have := trn_get' po (px.getD_lt ho)
      rw [e] at this
      exact this.symm
    · intro e
      rw [e, trn_get po hin]
  constructor
  · intro f s hs'
    obtain ⟨i, hi, rfl⟩ := List.getElem_of_mem hs'
    have := (key i hi).mp (f i hi)
    have eh : hs.getD i 0 = hs[i] := by rw [List.getD_eq_getElem?_getD, List.getElem?_eq_getElem hi] <;> rfl
    rw [eh] at this
    exact this
  · intro f i hi
    refine (key i hi).mpr (f _ ?_)
    rw [List.getD_eq_getElem?_getD, List.getElem?_eq_getElem hi]
    exact List.getElem_mem hi
/-- how many entries there are -/
theorem tabF_len (ok : BkOk B ms) : ∀ (f h : Nat), h + f = B.n → (tabF B h).length * 2 ≤ f * (f + 1)
  | 0, h, e => by
    unfold tabF
    rw [List.drop_eq_nil_of_le (by rw [tab_len]; omega)]
    exact Nat.le_refl _
  | f + 1, h, e => by
    have ih := tabF_len ok f (h + 1) (by omega)
    unfold tabF at ih ⊢
    have hh : h < (tab B).length := by rw [tab_len]; omega
    have eg : (tab B)[h] = tabRow B h := by
      have := tab_get (B := B) (k := h) (by omega)
      rw [List.getElem?_eq_getElem hh] at this
      exact Option.some.inj this
    have hr := row_len ok.pre (k := h) (by omega)
    rw [List.drop_eq_getElem_cons hh, eg, List.flatten_cons, List.length_append, tabRow_len, Nat.add_mul]
    have : (f + 1) * (f + 1 + 1) = f * (f + 1) + 2 * (f + 1) := by rw [Nat.mul_comm (f + 1) (f + 1 + 1), Nat.add_mul, Nat.add_mul]; rw [Nat.mul_comm f (f + 1)] <;> omega
    omega
end
end Shf

/-! a room that holds seats: the walk -/
namespace Shf
open PySem L2
theorem vI_nat {n : Nat} {ns : List Int} (h : ∀ z ∈ ns, 0 ≤ z ∧ z < (n : Int)) : ns = (ns.map Int.toNat).map (fun (x : Nat) => (x : Int)) := by
  rw [List.map_map]
  conv => lhs; rw [← List.map_id ns]
  exact List.map_congr_left fun z hz => by show z = (z.toNat : Int); have := h z hz; omega
theorem flat_part {tss : List (List (List Nat))} {i j : Nat} {ts : List (List Nat)} (h : tss[i]? = some ts) (hj : j ≤ ts.length) : ((tss.take i).flatten ++ ts.take j).length ≤ tss.flatten.length := by
  obtain ⟨hi, e⟩ := List.getElem?_eq_some_iff.mp h
  conv => rhs; rw [← List.take_append_drop i tss, List.drop_eq_getElem_cons hi, e, List.flatten_append, List.flatten_cons]
  rw [List.length_append, List.length_append, List.length_append, List.length_take]
  omega
theorem nam2 {n : Nat} {o x : List Nat} (po : IsP n o) : nam (trn o) x = jn (jn o x) (trn o) := by
  unfold nam
  rw [trn2 po]
theorem w_sortSet {K : PySem.W.Frag} {te : TE} {σ : L2.St} {H : Hp} {Q : VK} (h : te σ H fun x H1 => ∃ l ns, x = .ref l ∧ SqL K H1 l (vI ns) ∧ ns.length < 60 ∧
  ∀ (out : List Int) (r : Addr), out.Pairwise (· < ·) → (∀ k : Int, k ∈ out ↔ k ∈ ns) → H1 r = none → Q (.ref r) (upd H1 r (.lst (vI out)))) : tSortSet K te σ H Q := h
def sp_holding (K : PySem.W.Frag) (g : Gd) : Sp := fun vs H Q E => ∃ (R : RA) (B : Bk) (ms : List (List Nat)) (p : Addr) (ns : List Int), vs = [.ref R.r, .ref p] ∧ RoomAt g H R B ms ∧ SqL K H p (vI ns) ∧ ns.length < 60 ∧
  ((∃ z ∈ ns, ¬ (0 ≤ z ∧ z < (B.n : Int))) → E (.ref g.NoSeat) none H) ∧
  ∀ ss : List Nat, ns = ss.map (fun (x : Nat) => (x : Int)) → (∀ s ∈ ss, s < B.n) → ∀ (R' : RA) (H' : Hp) (B' : Bk) (ms' : List (List Nat)), RoomAt g H' R' B' ms' → B'.n = B.n → Same H H' → (∀ a ∈ R'.G, H a = none) → ms'.length * 2 ≤ B.n * (B.n + 1) →
    (∀ x, IsP B.n x → (Gen B.n ms' x ↔ Gen B.n ms x ∧ ∀ s ∈ ss, x.getD s 0 = s)) → Q (.ref R'.r) H'
theorem len_holding (K : PySem.W.Frag) (g : Gd) (vs : List V) (H : Hp) (Q : VK) (E : XK) (h : sp_holding K g vs H Q E) : vs.length = 2 := by obtain ⟨_, _, _, _, _, rfl, _⟩ := h; rfl
--@facts holding r_Room
abbrev N_holding : List Str := ["room", "seats", "seat", "held", "order", "k", "way", "named", "row", "seating", "made", "rows"]
/-- holding -/
def t_holding (K : PySem.W.Frag) (g : Gd) (E : XK) : TS :=
  (tSeq (tFor (iList K (tVar 1)) (gName 2) (tDrop (tCallS (sp_ask_seat K g) (WE (wE E)) (tCons (tVar 0) (tCons (tVar 2) tNil)))))
    (tSeq (tAsg (tSortSet K (tVar 1)) (gName 3))
    (tSeq (tAsg (tCB (rTupOf K) (tCons (tOp rCat (tVar 3) (tLc (iRng1 (tCons (tFld K (tVar 0) "size") tNil)) (gName 5) (tTest (tOp (rIn K true) (tVar 5) (tVar 3))) (tVar 5) [5])) tNil)) (gName 4))
    (tSeq (tAsg (tCallS (sp_turned K g) (fun _ => E0) (tCons (tVar 4) tNil)) (gName 6))
    (tSeq (tAsg (tMakeS g.Room (sp_Room_init K g) (WE (wE E)) (tCons (tFld K (tVar 0) "size") tNil)) (gName 7))
    (tSeq (tFor (iList K (tMethS g.Room "table" (sp_Room_table K g) (fun _ => E0) (tVar 0) tNil)) (gName 8) (tFor (iList K (tVar 8)) (gName 9) (tDrop (tMethS g.Room "put_move" (sp_Room_put_move K g) (WE (wE E)) (tVar 7) (tCons (tCallS (sp_joined K g) (fun _ => E0) (tCons (tCallS (sp_joined K g) (fun _ => E0) (tCons (tVar 4) (tCons (tVar 9) tNil))) (tCons (tVar 6) tNil))) tNil)))))
    (tSeq (tAsg (tMakeS g.Room (sp_Room_init K g) (WE (wE E)) (tCons (tFld K (tVar 0) "size") tNil)) (gName 10))
    (tSeq (tAsg (tMethS g.Room "table" (sp_Room_table K g) (fun _ => E0) (tVar 7) tNil) (gName 11))
    (tSeq (tFor (iRng2 (tCons (tCB (rLenQ K) (tCons (tVar 3) tNil)) (tCons (tFld K (tVar 0) "size") tNil))) (gName 5) (tFor (iList K (tOp (rIxL K) (tVar 11) (tVar 5))) (gName 9) (tIfS (tTest (tOp (rNeD K) (tVar 9) (tCallS (sp_rest K g) (WE (wE E)) (tCons (tFld K (tVar 0) "size") tNil)))) (tDrop (tMethS g.Room "put_move" (sp_Room_put_move K g) (WE (wE E)) (tVar 10) (tCons (tCallS (sp_joined K g) (fun _ => E0) (tCons (tCallS (sp_joined K g) (fun _ => E0) (tCons (tVar 6) (tCons (tVar 9) tNil))) (tCons (tVar 4) tNil))) tNil))) tNext)))
    (tRet (tVar 10)))))))))))
theorem pure_holding {K : PySem.W.Frag} {g : Gd} (cR : RmC K g) (vs : List V) (H : Hp) (Q : VK) (E : XK) (h : sp_holding K g vs H Q E) : Rd1 (t_holding K g E) N_holding vs H Q := by
  obtain ⟨R, B, ms, p, ns, rfl, hR, hp, h60, hE, k⟩ := h
  have ok := hR.cl.ok
  have h16 := hR.n16
  have h1 := hR.n1
  unfold t_holding
  walk_at "re"
  walk_at "sq"
  walk_at "st"
  walk_at "re"
  refine ⟨p, rfl, ⟨_, hp⟩, for_list (K := K) (a := p) (xs := vI ns) (fun i σ H' => ∃ y, σ = [some (.ref R.r), some (.ref p), y, none, none, none, none, none, none, none, none, none] ∧ H' = H ∧ ∀ z ∈ ns.take i, 0 ≤ z ∧ z < (B.n : Int)) ⟨none, rfl, rfl, by rw [List.take_zero]; intro z hz; cases hz⟩ ?_ ?_ ?_⟩
  · rintro i σ H' _ ⟨_, _, rfl, _⟩; exact hp
  · rintro i x σ H' hx ⟨y, rfl, rfl, hv⟩
    have hx' : (ns.map V.int)[i]? = some x := hx
    rw [List.getElem?_map] at hx'
    obtain ⟨z, hz, rfl⟩ := Option.map_eq_some_iff.mp hx'
    show tDrop _ _ (List.set _ 2 (some (V.int z))) H'
    walk_at "re"
    refine ⟨R, B, ms, z, rfl, hR, fun bad => hE ⟨z, List.mem_of_getElem? hz, bad⟩, fun good => ?_⟩
    refine ⟨_, rfl, rfl, fun z' hz' => ?_⟩
    rw [take_more hz] at hz'
    rcases List.mem_append.mp hz' with h | h
    · exact hv z' h
    · rw [List.mem_singleton.mp h]; exact good
  · rintro σ H' ⟨y2, rfl, rfl, hv⟩
    have hv : ∀ z ∈ ns, 0 ≤ z ∧ z < (B.n : Int) := fun z hz => hv z (by rw [vI_len, List.take_length]; exact hz)
    have ens := vI_nat hv
    generalize ess : ns.map Int.toNat = ss at *
    have hss : ∀ s ∈ ss, s < B.n := fun s hs => by
      have := hv (s : Int) (by rw [ens]; exact List.mem_map.mpr ⟨s, hs, rfl⟩)
      omega
    have k := k ss ens hss
    walk_at "re"
    walk_at "sq"
    walk_at "re"
    refine w_sortSet ?_
    walk_at "re"
    refine ⟨p, ns, rfl, hp, h60, fun out l hso hmem hl => ?_⟩
    have hout : ∀ z ∈ out, 0 ≤ z ∧ z < (B.n : Int) := fun z hz => hv z ((hmem z).mp hz)
    have eout := vI_nat hout
    generalize ehs : out.map Int.toNat = hs at *
    have hvl : vI out = vN hs := by rw [vN_eq, ← eout]
    rw [hvl]
    have mhs : ∀ s, s ∈ hs ↔ s ∈ ss := fun s => by
      have a1 : (s : Int) ∈ out ↔ s ∈ hs := by
        rw [eout, List.mem_map]
        exact ⟨fun ⟨x, hx, e⟩ => by have : x = s := by omega
                                    rw [← this]; exact hx, fun h => ⟨s, h, rfl⟩⟩
      have a2 : (s : Int) ∈ ns ↔ s ∈ ss := by
        rw [ens, List.mem_map]
        exact ⟨fun ⟨x, hx, e⟩ => by have : x = s := by omega
                                    rw [← this]; exact hx, fun h => ⟨s, h, rfl⟩⟩
      rw [← a1, ← a2, hmem]
    have ndh : hs.Nodup := by
      have : out.Nodup := hso.imp fun h e => by omega
      rw [eout] at this
      exact (List.pairwise_map.mp this).imp fun h e => h (by rw [e])
    have hlt : ∀ s ∈ hs, s < B.n := fun s h => hss s ((mhs s).mp h)
    have po := isP_ord (n := B.n) ndh hlt
    have hln : hs.length ≤ B.n := by have := po.len; unfold ordL at this; rw [List.length_append] at this; omega
    have s1 : Same H' (upd H' l (.lst (vN hs))) := (Same.refl H').new hl
    have hl1 : (upd H' l (.lst (vN hs))) l = some (.lst (vN hs)) := upd_same
    generalize upd H' l (.lst (vN hs)) = H1 at *
    have hR1 := hR.same s1
    walk_at "re"
    walk_at "sq"
    walk_at "re"
    refine w_lc (w_irng1 ?_)
    walk_at "ex"
    refine hR1.f_size cR ?_
    walk_at "ex"
    refine ⟨_, rfl, by omega, by omega, fun D hD => lc_range (lo := 0) (n := B.n) (fun i H2 => Same H1 H2 ∧ H2 D = some (.lst (vN ((List.range i).filter fun x => !decide (x ∈ hs))))) ⟨(Same.refl H1).new hD, upd_same⟩ ?_ ?_⟩
    · rintro i H2 hi ⟨s2, hd⟩
      refine ⟨rfl, ?_⟩
      rw [Int.zero_add]
      walk_at "ex"
      refine notin_LN (sqL (s2 _ _ hl1)) ?_
      walk_at "ex"
      rw [List.range_succ, List.filter_append]
      refine if_nb (fun e => ?_) (fun e => ?_)
      · walk_at "ex"
        have hf : ((List.range i).filter fun x => !decide (x ∈ hs)).length ≤ i := by have := List.length_filter_le (fun x => !decide (x ∈ hs)) (List.range i); rw [List.length_range] at this; exact this
        refine ⟨_, hd, by rw [vN_len]; exact zlt (by omega), s2.up hD, ?_⟩
        rw [upd_same, List.filter_cons_of_pos (by rw [e] <;> rfl), List.filter_nil, ← vN_app]
      · refine ⟨s2, ?_⟩
        rw [List.filter_cons_of_neg (by rw [e]; decide), List.filter_nil, List.append_nil]
        exact hd
    · rintro H2 ⟨s2, hd⟩
      have hl2 := s2 _ _ hl1
      refine cat_N hl2 hd (by have := po.len; unfold ordL at this; rw [List.length_append] at this; omega) fun p3 hp3 => ?_
      have s3 : Same H2 (upd H2 p3 (.lst (vN (ordL hs B.n)))) := (Same.refl H2).new hp3
      have hp33 : (upd H2 p3 (.lst (vN (ordL hs B.n)))) p3 = some (.lst (vN (ordL hs B.n))) := upd_same
      walk_at "re"
      show rTupOf K [V.ref p3] (upd H2 p3 (.lst (vN (ordL hs B.n)))) _
      generalize upd H2 p3 (.lst (vN (ordL hs B.n))) = H3 at *
      refine tup_L (sqL hp33) fun o ho => ?_
      have s4 : Same H3 (upd H3 o (.tup (vN (ordL hs B.n)))) := (Same.refl H3).new ho
      have ho4 : (upd H3 o (.tup (vN (ordL hs B.n)))) o = some (.tup (vN (ordL hs B.n))) := upd_same
      generalize upd H3 o (.tup (vN (ordL hs B.n))) = H4 at *
      have s04 := s1.trans (s2.trans (s3.trans s4))
      have hl4 := s4 _ _ (s3 _ _ hl2)
      walk_at "re"
      walk_at "sq"
      walk_at "re"
      refine ⟨o, B.n, _, rfl, sqT ho4, po, by omega, fun w Ha sa hw hwa => ?_⟩
      have hRa := (hR.same s04).same sa
      walk_at "re"
      walk_at "sq"
      walk_at "re"
      refine hRa.f_size cR ?_
      walk_at "re"
      refine make_room h1 h16 fun R2 Hb sb hR2 fr => ?_
      have hRb := hRa.same sb
      have fr2 : ∀ a ∈ R2.F, Ha a = none := fun a ha => fr a (R2.fg a ha)
      walk_at "re"
      walk_at "sq"
      walk_at "st"
      walk_at "re"
      refine hRb.inst (by rfl) ?_
      walk_at "re"
      refine ⟨R, B, ms, rfl, hRb, fun t Hc tv sc ht htc hll _ _ => ?_⟩
      have hR2c := hR2.same sc
      have ht2 := hR2.nin ht
      have nR2 : ∀ a ∈ R2.F, Hb a ≠ none := fun a ha z => by obtain ⟨u, hu⟩ := hR2.full (R2.fg a ha); rw [hu] at z; cases z
      have poC : IsP B.n (trn (ordL hs B.n)) := isP_trn po
      have lenF := tabF_len ok B.n 0 (by omega)
      have bMul : B.n * (B.n + 1) ≤ 272 := by have := Nat.mul_le_mul h16 (show B.n + 1 ≤ 17 by omega); omega
      have e0 : tabF B 0 = (tab B).flatten := by unfold tabF; rw [List.drop_zero]
      refine ⟨t, rfl, ⟨_, sqL htc⟩, for_list (K := K) (a := t) (xs := tv) (fun i σ H' => ∃ (B2 : Bk) (y8 y9 : Option V), σ = [some (.ref R.r), some (.ref p), y2, some (.ref l), some (.ref o), none, some (.ref w), some (.ref R2.r), y8, y9, none, none] ∧ But R2.F Hc H' ∧ RoomAt g H' R2 B2 (((tab B).take i).flatten.map (nam (trn (ordL hs B.n)))) ∧ B2.n = B.n) ⟨Bk.new B.n, none, none, rfl, But.refl _ _, by rw [List.take_zero]; exact hR2c, rfl⟩ ?_ ?_ ?_⟩
      · rintro i σ Hx _ ⟨_, _, _, _, b, _⟩; exact sqL (b.s _ _ htc fun z => ht2 (R2.fg _ z))
      · rintro i x σ Hx hx ⟨B2, y8, y9, rfl, bx, hRx, e2⟩
        obtain ⟨q, qv, ts, rfl, hts, hq, hql, hqn⟩ := (hll.but bx nR2).get' hx
        have hqR : q ∉ R2.F := fun z => by have := nR2 q z; exact this hqn
        obtain ⟨hiB, _⟩ := tab_at hts
        have ets : ∀ x ∈ ts, IsP B.n x := fun x hx' => by
          obtain ⟨h1', rfl⟩ := tab_at hts
          exact (entry_all ok h1' hx').1
        show tFor _ _ _ _ (List.set _ 8 (some (V.ref q))) Hx
        walk_at "st"
        walk_at "re"
        refine ⟨q, rfl, ⟨_, sqL hq⟩, for_list (K := K) (a := q) (xs := qv) (fun j σ H' => ∃ (B2 : Bk) (y9 : Option V), σ = [some (.ref R.r), some (.ref p), y2, some (.ref l), some (.ref o), none, some (.ref w), some (.ref R2.r), some (.ref q), y9, none, none] ∧ But R2.F Hx H' ∧ RoomAt g H' R2 B2 ((((tab B).take i).flatten ++ ts.take j).map (nam (trn (ordL hs B.n)))) ∧ B2.n = B.n) ⟨B2, y9, rfl, But.refl _ _, by rw [List.take_zero, List.append_nil]; exact hRx, e2⟩ ?_ ?_ ?_⟩
        · rintro j σ Hy _ ⟨_, _, _, b, _⟩; exact sqL (b.s _ _ hq hqR)
        · rintro j x σ Hy hx' ⟨B3, y9, rfl, by_, hRy, e3⟩
          obtain ⟨u, a, rfl, ha, hu⟩ := (hql.tu by_.t).get' hx'
          have pa := ets a (List.mem_of_getElem? ha)
          have bcy := bx.trans by_
          have hoy : Hy o = some (.tup (vN (ordL hs B.n))) := bcy.t _ _ (sc _ _ (sb _ _ (sa _ _ ho4)))
          have hwy : Hy w = some (.tup (vN (trn (ordL hs B.n)))) := bcy.t _ _ (sc _ _ (sb _ _ hwa))
          show tDrop _ _ (List.set _ 9 (some (V.ref u))) Hy
          walk_at "re"
          refine hRy.inst (by rfl) ?_
          walk_at "re"
          refine ⟨o, u, _, a, rfl, sqT hoy, sqT hu, by rw [po.len]; omega, fun y hy => by rw [pa.len]; exact po.lt hy, fun v1 Hz sz hv1 hv1z => ?_⟩
          walk_at "re"
          refine ⟨v1, w, _, _, rfl, sqT hv1z, sqT (sz _ _ hwy), by rw [jn_len, po.len]; omega, fun y hy => by rw [poC.len]; exact (isP_jn po pa).lt hy, fun v2 Hw sw hv2 hv2w => ?_⟩
          rw [← nam2 po] at hv2w
          have hRw := hRy.same (sz.trans sw)
          have hlen := flat_part hts (j := j) (by have := (List.getElem?_eq_some_iff.mp ha).1; omega)
          rw [← e0] at hlen
          walk_at "re"
          refine put_ok hRw hv2w (by rw [e3]; exact isP_nam poC pa) (by rw [List.length_map]; omega) fun Hv B4 hRv bv e4 _ => ?_
          refine ⟨B4, _, rfl, by_.trans ((But.of (sz.trans sw)).trans bv), ?_, by rw [e4, e3]⟩
          rw [take_more ha, ← List.append_assoc, List.map_append]
          exact hRv
        · rintro σ Hy ⟨B3, y9, rfl, by_, hRy, e3⟩
          refine ⟨B3, _, _, rfl, bx.trans by_, ?_, e3⟩
          rw [hql.len, List.take_length] at hRy
          rw [take_more hts, List.flatten_append, List.flatten_cons, List.flatten_nil, List.append_nil]
          exact hRy
      · rintro σ Hx ⟨B2, y8, y9, rfl, bx, hRx, e2⟩
        rw [hll.len, List.take_length, ← e0] at hRx
        have eM : (tabF B 0).map (nam (trn (ordL hs B.n))) = nmM B hs := rfl
        rw [eM] at hRx
        have ok2 := hRx.cl.ok
        have s0x : Same H' Hx := (s04.trans (sa.trans (sb.trans sc))).past bx fun a ha => (s04.trans sa).free (fr2 a ha)
        have sax : Same Ha Hx := (sb.trans sc).past bx fr2
        have hRr := hR.same s0x
        have hlx : Hx l = some (.lst (vN hs)) := sax _ _ (sa _ _ hl4)
        have hox : Hx o = some (.tup (vN (ordL hs B.n))) := sax _ _ (sa _ _ ho4)
        have hwx : Hx w = some (.tup (vN (trn (ordL hs B.n)))) := sax _ _ hwa
        have frx : ∀ a ∈ R2.G, H' a = none := fun a ha => (s04.trans sa).free (fr a ha)
        clear hll hR2c ht2 bx sc htc ht hRb hR2 sb hRa sa hl4 s04 ho4 s4 hp33 s3 hl2 hd s2 hl1 s1 hR1 hwa hw ho hp3 hl hD
        walk_at "re"
        walk_at "sq"
        walk_at "re"
        refine hRr.f_size cR ?_
        walk_at "re"
        refine make_room h1 h16 fun R3 Hy sy hR3 fr3 => ?_
        have hRxy := hRx.same sy
        have fr3F : ∀ a ∈ R3.F, Hx a = none := fun a ha => fr3 a (R3.fg a ha)
        have nR3 : ∀ a ∈ R3.F, Hy a ≠ none := fun a ha z => by obtain ⟨u, hu⟩ := hR3.full (R3.fg a ha); rw [hu] at z; cases z
        walk_at "re"
        walk_at "sq"
        walk_at "re"
        refine hRxy.inst (by rfl) ?_
        walk_at "re"
        refine ⟨R2, B2, _, rfl, hRxy, fun t Hz tv sz ht htz hll _ _ => ?_⟩
        have ht3 := hR3.nin ht
        have hR3z := hR3.same sz
        have sxz := sy.trans sz
        have hRrz := hRr.same sxz
        walk_at "re"
        walk_at "sq"
        walk_at "st"
        walk_at "re"
        refine len_LN (sqL (sxz _ _ hlx)) ?_
        walk_at "re"
        refine hRrz.f_size cR ?_
        walk_at "re"
        refine ⟨_, _, rfl, ⟨by omega, by omega, by omega, by omega⟩, ?_⟩
        have eN : ((B.n : Int) - (hs.length : Int)).toNat = B.n - hs.length := by omega
        rw [eN]
        have lenF2 := tabF_len ok2 (B2.n - hs.length) hs.length (by omega)
        have mono2 : (B2.n - hs.length) * (B2.n - hs.length + 1) ≤ B.n * (B.n + 1) := Nat.mul_le_mul (by omega) (by omega)
        have eD : tabF B2 hs.length = ((tab B2).drop hs.length).flatten := rfl
        refine for_range (lo := (hs.length : Int)) (n := B.n - hs.length) (fun i σ H3 => ∃ (B3 : Bk) (y5 y9 : Option V), σ = [some (.ref R.r), some (.ref p), y2, some (.ref l), some (.ref o), y5, some (.ref w), some (.ref R2.r), y8, y9, some (.ref R3.r), some (.ref t)] ∧ But R3.F Hz H3 ∧ RoomAt g H3 R3 B3 (((((tab B2).drop hs.length).take i).flatten.filter fun x => !decide (x = List.range B2.n)).map (nam (ordL hs B2.n))) ∧ B3.n = B.n) ⟨Bk.new B.n, _, _, rfl, But.refl _ _, by rw [List.take_zero]; exact hR3z, rfl⟩ ?_ ?_
        · rintro i σ Hv hi ⟨B3, y5, y9, rfl, bv, hRv, e3⟩
          have htv : Hv t = some (.lst tv) := bv.s _ _ htz fun z => ht3 (R3.fg _ z)
          have hts : (tab B2)[hs.length + i]? = some (tabRow B2 (hs.length + i)) := tab_get (by omega)
          obtain ⟨q, qv, hqv, hq, hql, hqn⟩ := (hll.but bv nR3).get hts
          have hqR : q ∉ R3.F := fun z => (nR3 q z) hqn
          have hts' : ((tab B2).drop hs.length)[i]? = some (tabRow B2 (hs.length + i)) := by rw [List.getElem?_drop]; exact hts
          have ets : ∀ x ∈ tabRow B2 (hs.length + i), IsP B.n x := fun x hx' => by rw [← e2]; exact (entry_all ok2 (by omega) hx').1
          generalize tabRow B2 (hs.length + i) = ts at *
          show tFor _ _ _ _ (List.set _ 5 (some (V.int ((hs.length : Int) + (i : Int))))) Hv
          walk_at "st"
          walk_at "re"
          refine ix_L (i := hs.length + i) (sqL htv) hqv (by omega) ?_
          refine ⟨q, rfl, ⟨_, sqL hq⟩, for_list (K := K) (a := q) (xs := qv) (fun j σ H3 => ∃ (B3 : Bk) (y9 : Option V), σ = [some (.ref R.r), some (.ref p), y2, some (.ref l), some (.ref o), some (.int ((hs.length : Int) + (i : Int))), some (.ref w), some (.ref R2.r), y8, y9, some (.ref R3.r), some (.ref t)] ∧ But R3.F Hv H3 ∧ RoomAt g H3 R3 B3 ((((((tab B2).drop hs.length).take i).flatten ++ ts.take j).filter fun x => !decide (x = List.range B2.n)).map (nam (ordL hs B2.n))) ∧ B3.n = B.n) ⟨B3, y9, rfl, But.refl _ _, by rw [List.take_zero, List.append_nil]; exact hRv, e3⟩ ?_ ?_ ?_⟩
          · rintro j σ Hu _ ⟨_, _, _, b, _⟩; exact sqL (b.s _ _ hq hqR)
          · rintro j x σ Hu hx' ⟨B4, y9, rfl, bu, hRu, e4⟩
            obtain ⟨u, a, rfl, ha, hu⟩ := (hql.tu bu.t).get' hx'
            have pa := ets a (List.mem_of_getElem? ha)
            have bzu := bv.trans bu
            have hou : Hu o = some (.tup (vN (ordL hs B.n))) := bzu.t _ _ (sxz _ _ hox)
            have hwu : Hu w = some (.tup (vN (trn (ordL hs B.n)))) := bzu.t _ _ (sxz _ _ hwx)
            have hlen := flat_part hts' (j := j) (by have := (List.getElem?_eq_some_iff.mp ha).1; omega)
            rw [← eD] at hlen
            have hRru : RoomAt g Hu R B ms := hRrz.but bzu fun a ha z => by obtain ⟨u, hu⟩ := hRr.full ha; rw [fr3F a z] at hu; cases hu
            show tIfS _ _ _ _ (List.set _ 9 (some (V.ref u))) Hu
            walk_at "st"
            walk_at "ex"
            refine hRru.f_size cR ?_
            walk_at "ex"
            refine ⟨(B.n : Int), rfl, fun _ => ?_, fun bad => absurd ⟨by omega, by omega⟩ bad⟩
            rw [Int.toNat_natCast]
            intro v0 Ht st hv0 hv0t
            walk_at "ex"
            refine ne_TN (sqT (st _ _ hu)) (sqT hv0t) ?_
            walk_at "ex"
            rw [take_more ha, ← List.append_assoc, List.filter_append, List.map_append]
            refine if_nb (fun e => ?_) (fun e => ?_)
            · walk_at "st"
              walk_at "re"
              refine (hRu.same st).inst (by rfl) ?_
              walk_at "re"
              refine ⟨w, u, _, a, rfl, sqT (st _ _ hwu), sqT (st _ _ hu), by rw [poC.len]; omega, fun y hy => by rw [pa.len]; exact poC.lt hy, fun v1 Hs ss_ hv1 hv1z => ?_⟩
              walk_at "re"
              refine ⟨v1, o, _, _, rfl, sqT hv1z, sqT (ss_ _ _ (st _ _ hou)), by rw [jn_len, poC.len]; omega, fun y hy => by rw [po.len]; exact (isP_jn poC pa).lt hy, fun v2 Hw sw hv2 hv2w => ?_⟩
              have hRw := hRu.same (st.trans (ss_.trans sw))
              have hfl : ((((tab B2).drop hs.length).take i).flatten ++ ts.take j).length ≤ 136 := by omega
              walk_at "re"
              refine put_ok (a := nam (ordL hs B.n) a) hRw hv2w (by rw [e4]; exact isP_nam po pa) (by rw [List.length_map]; exact Nat.lt_of_le_of_lt (Nat.le_trans (List.length_filter_le _ _) hfl) (by decide)) fun Hv' B5 hRv' bv' e5 _ => ?_
              refine ⟨B5, _, rfl, bu.trans ((But.of (st.trans (ss_.trans sw))).trans bv'), ?_, by rw [e5, e4]⟩
              rw [List.filter_cons_of_pos (by rw [e2, e] <;> rfl), List.filter_nil, List.map_cons, List.map_nil, e2]
              rw [e2] at hRv'
              exact hRv'
            · refine ⟨B4, some (.ref u), rfl, bu.trans (But.of st), ?_, e4⟩
              rw [List.filter_cons_of_neg (by rw [e2, e]; decide), List.filter_nil, List.map_nil, List.append_nil]
              exact hRu.same st
          · rintro σ Hu ⟨B4, y9, rfl, bu, hRu, e4⟩
            refine ⟨B4, _, _, rfl, bv.trans bu, ?_, e4⟩
            rw [hql.len, List.take_length] at hRu
            rw [take_more hts', List.flatten_append, List.flatten_cons, List.flatten_nil, List.append_nil]
            exact hRu
        · rintro σ Hv ⟨B3, y5, y9, rfl, bv, hRv, e3⟩
          rw [List.take_of_length_le (by rw [List.length_drop, tab_len]; omega)] at hRv
          have eH : ((((tab B2).drop hs.length).flatten.filter fun x => !decide (x = List.range B2.n)).map (nam (ordL hs B2.n))) = hdM B2 hs := rfl
          rw [eH] at hRv
          have s0v : Same Hx Hv := sxz.past bv fr3F
          walk_at "rd"
          refine k R3 Hv B3 _ hRv e3 (s0x.trans s0v) (fun a ha => s0x.free (fr3 a ha)) ?_ fun x px => ?_
          · unfold hdM
            rw [List.length_map]
            have := List.length_filter_le (fun x => !decide (x = List.range B2.n)) (tabF B2 hs.length)
            omega
          · have hg := hold_gen ndh hlt hR.cl hR.mp e2 hRx.cl hRx.mp px
            rw [hg]
            refine and_congr_right fun _ => ⟨fun h s hs' => h s ((mhs s).mpr hs'), fun h s hs' => h s ((mhs s).mp hs')⟩
end Shf

/-! an exception out of a list comprehension -/
namespace Shf
open PySem L2
section
open PyProof.Rows
/-- an exception out of a call in a comprehension's element: noted, the block let go, and on its way in the def's own frame -/
theorem comp_flew {X : Cx} {pins : List (Addr × Obj)} {σ : L2.St} {H : Hp} {s : Shared} {W : WX} {E : XK} {u : Value} {s' : Shared} {ce : Env} {use : Option (Value → Sem Unit)} {Qf : Value → Shared → Prop} {acc : Value}
    (hs : X.stack = X.env :: X.outer) (hf : X.env.frame = some X.env.locals) (hcf : ce.frame = X.env.frame) (tk : Takes X W) (I : Inv X pins σ H s) (fC : FpOk X pins H ce.locals) {m : Str → Option Value} (hn : s.heap.Ns ce.locals m)
    (hW : ∀ cls d H', E cls d H' → W cls d σ H') (c : L2.CX X.prog X.w X.stack H s E u s') :
    notedBy (model X.prog X.w) X.A ce (fun e z => compEnds (model X.prog X.w) X.A X.xe use Qf acc ce (.error e) z) u s' := by
  obtain ⟨a, B, H', cls, d, rfl, fl, hok, ub, na, os, ag, hE⟩ := c
  have hfr : X.A.frames = some (X.env :: X.outer) := by rw [I.ok.frames, hs]
  have nCs : ce.locals ∉ frs X.stack := fun z => by
    rcases List.mem_cons.mp (I.stkSub _ z) with e | e
    · exact fC.2.1 e
    · exact fC.2.2.1 e
  obtain ⟨oC, es, ep, hoC, hdC, hkC⟩ := hn
  have bC : B.get? ce.locals = some oC := ub.keep _ _ hoC fC.1 nCs
  have hC' : H' ce.locals = none := ub.free _ _ hoC fC.1
  have fl' : HandSPX.FlyingZ B (X.env :: X.outer) a (Zc cls d) s'.heap := by rw [← hs]; exact fl
  show wpAny _ _ (noteFrame (.ref a) ce) _ _ s'
  rw [noteFrame_env _ hcf]
  refine HandSPX.looks_onZ Zc.steady hfr hf fl' fun h1 hh1 up1 => ?_
  show CompFails _ _ _ ce _ _
  have hC1 : h1.get? ce.locals = some oC := hh1.1 _ _ bC
  refine ⟨m, ⟨oC, es, ep, hC1, hdC, hkC⟩, fun h2 m2 hn2 sb => ?_⟩
  obtain ⟨G, g1, g2⟩ := restrict B fun b => !decide (b = ce.locals)
  have gC : G.get? ce.locals = none := g2 _ (by simp)
  have gB : ∀ b o, G.get? b = some o → B.get? b = some o ∧ b ≠ ce.locals := fun b o e => by
    have hb : b ≠ ce.locals := fun z => by rw [z, gC] at e; cases e
    rw [g1 b (by simp [hb])] at e
    exact ⟨e, hb⟩
  have bG : ∀ b o, B.get? b = some o → b ≠ ce.locals → G.get? b = some o := fun b o e hb => by rw [g1 b (by simp [hb])]; exact e
  have nG : ∀ b, B.get? b = none → G.get? b = none := fun b e => by
    cases q : G.get? b with
    | none => rfl
    | some o => rw [(gB b o q).1] at e; cases e
  have same12 : ∀ b, b ≠ ce.locals → h2.get? b = h1.get? b := fun b hb => sb.2 b hb
  have up2 : ∀ b o, b ≠ ce.locals → s'.heap.get? b = some o → (∀ vs, o.data ≠ .fields vs) → ∃ sl, h2.get? b = some { o with slots := sl } := fun b o hb e hd => by
    obtain ⟨sl, q⟩ := up1 b o e hd
    exact ⟨sl, (same12 b hb).trans q⟩
  obtain ⟨k1, k2, k3, oe, vs, T, oT, ts, he, hz, hd, e1, hnT, hTe, hT, hdT, e3⟩ := hh1
  have haC : a ≠ ce.locals := fun z => by rw [z, hC1] at he; cases he; rw [hdC] at hd; cases hd
  have hTC : T ≠ ce.locals := fun z => by rw [z, hC1] at hT; cases hT; rw [hdC] at hdT; cases hdT
  have he2 : h2.get? a = some oe := (same12 a haC).trans he
  have hh2 : HandSPX.HeldZ G (X.env :: X.outer) a (Zc cls d) X.env.locals h2 := by
    have f2 : h2.FunFrames B (X.env :: X.outer) := Heap.FunFrames.sameBut sb hn2 k3
    refine ⟨fun b o e => ?_, nG a k2, funFrames_none f2 fun L hL => nG L (f2.mem hL).1, oe, vs, T, oT, ts, he2, hz, hd, e1, nG T hnT, hTe, (same12 T hTC).trans hT, hdT, e3⟩
    obtain ⟨q1, q2⟩ := gB b o e
    exact (same12 b q2).trans (k1 b o q1)
  unfold PySem.passOn
  refine wpAny_bind (wpAny_field (s := { s' with heap := h2 }) he2 hd e1 ?_)
  rw [if_neg (show ¬ ((Value.ref T == Value.none) = true) from by simp), hcf, hf]
  refine wpAny_bind (HandSPX.setFlight_onZ (s := { s' with heap := h2 }) hh2 fun h3 hh3 up3 => ?_)
  refine wpAny_throw ?_
  obtain ⟨Y, y1, y2⟩ := restrict h3 fun b => (G.get? b).isSome || decide (b ∈ frs X.stack)
  have yG : ∀ b o, G.get? b = some o → Y.get? b = some o := fun b o e => by
    rw [y1 b (by simp [e])]
    exact hh3.1 b o e
  have yF : ∀ b, b ∈ frs X.stack → Y.get? b = h3.get? b := fun b hb => y1 b (by simp [hb])
  have oY : ∀ b o, Y.get? b = some o → h3.get? b = some o ∧ ((G.get? b).isSome = true ∨ b ∈ frs X.stack) := fun b o e => by
    cases q : ((G.get? b).isSome || decide (b ∈ frs X.stack)) with
    | false => rw [y2 b q] at e; cases e
    | true =>
      rw [y1 b q] at e
      exact ⟨e, by simpa [Bool.or_eq_true] using q⟩
  have slots : ∀ b o, s.heap.get? b = some o → b ∈ frs X.stack → ∃ sl, Y.get? b = some { o with slots := sl } := fun b o e hb => by
    obtain ⟨sl, q⟩ := ub.slot b o e hb
    obtain ⟨_, o', eo, hdf⟩ := I.stack.mem hb
    rw [e] at eo; cases eo
    have hbC : b ≠ ce.locals := fun z => nCs (by rw [← z]; exact hb)
    obtain ⟨sl2, q2⟩ := up2 b _ hbC q hdf
    obtain ⟨sl3, q3⟩ := up3 b _ q2 hdf
    exact ⟨sl3, by rw [yF b hb]; exact q3⟩
  have hokY : HOk X.prog X.w H' Y := fun b o q => (hok b o q).stay (fun c v hc r => yG c v (bG c v r fun z => by
    rcases hc with hc | hc
    · rw [← hc, z, hC'] at q; cases q
    · rw [z, hC'] at hc; cases hc)) (fun _ r => r) fun _ _ r => r
  have J : Inv X pins σ H' { s with heap := Y, gens := s'.gens, drawn := s'.drawn, toks := s'.toks } :=
    I.call (ch := [ce.locals]) ⟨fun b o e n hb hc => yG b o (bG b o (ub.keep b o e n hb) fun z => hc (by simp [z])), fun b o e n hb _ => slots b o e hb, fun b o e n _ => ub.free b o e n, fun b o e hc => by
      by_cases hb : b ∈ frs X.stack
      · obtain ⟨sl, q⟩ := slots b o e hb
        exact ⟨_, q⟩
      · obtain ⟨o', q⟩ := ub.there b o e hb
        exact ⟨o', yG b o' (bG b o' q fun z => hc (by simp [z]))⟩, ub.tups, ub.frzs, ub.tbls⟩ hokY ag fun b hb => by
      have e : b = ce.locals := by simpa using hb
      subst e
      exact ⟨fC.2.2.2.1, fC.2.1, fC.2.2.2.2.1, fC.2.2.2.2.2⟩
  refine tk _ _ ⟨a, G, _, pins, σ, H', cls, d, rfl, J, fun b o e hb => ?_, Heap.UpToSlots.of_keeps fun b o e => (oY b o e).1, .inr (.inr (by rw [hs]; exact hh3)), na, os, ag, hW _ _ _ hE⟩
  obtain ⟨q1, q2⟩ := oY b o e
  rcases q2 with q2 | q2
  · obtain ⟨o', q⟩ := Option.isSome_iff_exists.mp q2
    have z := hh3.1 b o' q
    rw [q1] at z; cases z
    exact q
  · exact absurd q2 hb

section
variable {X : Cx} {elt tg iter : Expr} {ifs : List Expr} {scope : Scope} {own : List (Str × Nat)} {pos spos : Pos} {wi : TI} {g : TG} {tt : TT} {te : TE} {E : XK}
theorem ends_of_post {M : Model} {A : Around} {xe : Value → Shared → Prop} {use : Option (Value → Sem Unit)} {Qf : Value → Shared → Prop} {acc : Value} {ce : Env} {f : Flow} {s : Shared} (h : compPost M A xe use Qf acc ce.locals (.ok f) s) : compEnds M A xe use Qf acc ce (.ok f) s := by
  cases use <;> exact h
/-- a list comprehension whose element may raise what the def is wished to let out -/
theorem lcX {pins : List (Addr × Obj)} {s : Shared} {σ : L2.St} {H : Hp} {Q : VK} {pos' : Pos} {use : Option (Value → Sem Unit)} {Qf : Value → Shared → Prop}
    (hc : X.calm = true) (hN : X.N.Nodup) (hst : X.stack = X.env :: X.outer) (hfr : X.env.frame = some X.env.locals) (tk : Takes X (wE E)) (I : Inv X pins σ H s) (hi : PI X tg iter wi) (ok : BlkOk X.N X.env.scope scope own)
    (hg : ∀ (s : Shared) (H : Hp) (C : Addr) (cl : List (Str × Addr)) (fp : List Addr), PG (X.blk s H scope (compEnvC scope cl C X.env) fp) tg g) (ht : ∀ (s : Shared) (H : Hp) (C : Addr) (cl : List (Str × Addr)) (fp : List Addr), PTs (X.blk s H scope (compEnvC scope cl C X.env) fp) ifs tt)
    (he : ∀ (s : Shared) (H : Hp) (C : Addr) (cl : List (Str × Addr)) (fp : List Addr) (xe : Value → Shared → Prop), (∀ σ, PassesAt (L2.CX X.prog X.w) ((X.blk s H scope (compEnvC scope cl C X.env) fp).wish xe) σ E) → PE ((X.blk s H scope (compEnvC scope cl C X.env) fp).wish xe) elt te)
    (hs : ∀ x, foldedSetIterable iter X.env x = pure x) (h : tLc wi g tt te (own.map (·.2)) σ H Q)
    (hRR : ∀ D C s' m H', Inv X pins σ H' s' → Q (.ref D) H' → s'.heap.Ns C m → FpOk X pins H' C → compPost (model X.prog X.w) X.A X.xe use Qf (.ref D) C (.ok .next) s') :
    wpAny (model X.prog X.w) X.A (comprehension (.ListComp elt [⟨tg, iter, ifs, 0⟩] scope pos) scope X.env pos' (newList []) false (eval iter X.env) use) Qf X.xe s := by
  have caught : ∀ y ∈ scope.names, y.2 = .free → ∃ c, X.env.cells.lookup y.1 = some c := fun y hy e => I.ok.has _ ((ok.free y hy e).imp id id)
  refine comprehension_at (use := use) rfl hs (closure_ok caught) ok.kind (fun y hy e => by rw [ok.uniq y hy, e]) (thn (hi.run pins s σ H _ I h) fun xv s1 hx => thn hx fun itv s2 h2 => ?_)
  obtain ⟨it, fp, tn, J, H2, rfl, I2, T, st2, f2, q⟩ := h2
  refine wpAny_newObj_type (newEnv_comp ?_) (by show 0 ≤ sizeLine; decide)
  generalize eD : s2.heap.objs.size = D
  have fresh2 : H2 D = none := I2.hok.fresh (Nat.le_of_eq eD)
  obtain ⟨W, ⟨m0, w0⟩, turn⟩ := q D fresh2
  generalize e3 : ({ s2 with heap := s2.heap.push { cls := .type "list", data := .seq ([] : List Value).toArray } } : Shared) = s3
  have h3 : s3.heap = s2.heap.push { cls := .type "list", data := .seq ([] : List Value).toArray } := by rw [← e3]
  have I3 : Inv X pins σ (upd H2 D (.lst [])) s3 := by
    rw [← e3]
    refine I2.laid (t' := s2.toks) (fun b o e => Heap.get?_push_of_some _ e) (Nat.le_of_eq eD) ⟨Nat.zero_le _, [], 0, .nil, ?_⟩
    rw [← eD]; exact Heap.get?_push_size _ rfl
  have f3 : ∀ b ∈ fp, FpOk X pins (upd H2 D (.lst [])) b ∧ b < s3.heap.objs.size := fun b hb => by
    obtain ⟨o, e, _⟩ := T.obj _ _ st2 b hb
    have lt := Heap.lt_size e
    exact ⟨⟨by rw [upd_ne (by rw [← eD]; exact Nat.ne_of_lt lt)]; exact (f2 b hb).1, (f2 b hb).2⟩, by rw [h3, Heap.size_push]; exact Nat.lt_succ_of_lt lt⟩
  have st3 : tn 0 s3.heap := T.keep _ _ _ st2 fun b _ o e => by rw [h3]; exact Heap.get?_push_of_some _ e
  have I4 := block_start I3 ok hN f3
  generalize ecl : cellsFrom (s3.heap.objs.size + 1) scope.names (cloFrom X.env.cells scope.names []) = cl at I4
  have pg := hg s3 (upd H2 D (.lst [])) s3.heap.objs.size cl fp
  have pt := ht s3 (upd H2 D (.lst [])) s3.heap.objs.size cl fp
  have pe := he s3 (upd H2 D (.lst [])) s3.heap.objs.size cl fp
  show codeAny _ _ (.compStart (.ListComp elt [⟨tg, iter, ifs, 0⟩] scope pos) 0 (.ref it) (.ref D) (compEnvC scope cl s3.heap.objs.size X.env)) (compEnds (model X.prog X.w) X.A X.xe use Qf (.ref D) (compEnvC scope cl s3.heap.objs.size X.env)) { s3 with heap := pushCells (s3.heap.push { cls := .type "dict", data := .dict #[] }) scope.names }
  generalize ece : compEnvC scope cl s3.heap.objs.size X.env = ce at I4 pg pt pe ⊢
  have cL : ce.locals = s3.heap.objs.size := by rw [← ece] <;> rfl
  have cF : ce.frame = X.env.frame := by rw [← ece] <;> rfl
  generalize e4 : ({ s3 with heap := pushCells (s3.heap.push { cls := .type "dict", data := .dict #[] }) scope.names } : Shared) = s4 at I4 ⊢
  generalize upd H2 D (.lst []) = H3 at I3 I4 pg pt pe w0 f3
  have st4 : tn 0 s4.heap := T.keep _ _ _ st3 fun b _ o e => by rw [← e4]; exact pushCells_keeps _ _ _ _ (Heap.get?_push_of_some _ e)
  have off : ∀ {σ' : L2.St} {H' : Hp} {s' : Shared}, Inv (X.blk s3 H3 scope ce fp) [] σ' H' s' → (∀ b ∈ fp, H' b = none) → ∀ b ∈ fp, FpOk (X.blk s3 H3 scope ce fp) [] H' b := fun {σ' H' s'} I' hn b hb =>
    ⟨hn b hb, (I'.ok.exf b hb).1, I'.ok.exfs b hb, .inl hb, (I'.ok.exf b hb).2, fun p hp => by simp at hp⟩
  -- a state of the block is one of the def's
  have back : ∀ {pn : List (Addr × Obj)} {σ' : L2.St} {H' : Hp} {s' : Shared}, Inv (X.blk s3 H3 scope ce fp) pn σ' H' s' → Inv X pins σ H' s' ∧ FpOk X pins H' ce.locals := fun {pn σ' H' s'} I' =>
    ⟨I3.call' (ch := fp) I'.os I'.base I'.hok I'.bare fun b hb => ⟨(f3 b hb).1.2.2.2.1, (f3 b hb).1.2.1, (f3 b hb).1.2.2.2.2.1, (f3 b hb).1.2.2.2.2.2⟩, I3.fpOk (by rw [cL]; exact Nat.le_refl _) I'.free⟩
  have loop : codeAny (model X.prog X.w) X.A (.compLoop (.ListComp elt [⟨tg, iter, ifs, 0⟩] scope pos) 0 (.ref it) (.ref D) ce) (compEnds (model X.prog X.w) X.A X.xe use Qf (.ref D) ce) s4 := by
    refine compLoop_any (fun n z => ∃ i K, Inv (X.blk s3 H3 scope ce fp) [] (wipe σ (own.map (·.2))) K z ∧ tn i z.heap ∧ (∀ b ∈ fp, K b = none) ∧ W i n K) ?_ m0 ⟨0, H3, I4, st4, fun b hb => (f3 b hb).1.1, w0⟩
    rintro n z ⟨i, K, Iz, stz, nz, wz⟩
    rcases turn i n K wz with ⟨stop, qq⟩ | ⟨go, Nx, hNx, step⟩
    · refine thnF (T.done (X.blk s3 H3 scope ce fp) rfl rfl rfl hc i [] z _ K (fun _ _ => False) Iz (off Iz nz) stz stop) fun r z1 ⟨hr, I6⟩ => ?_
      subst hr
      obtain ⟨I7, fC⟩ := back I6
      obtain ⟨m, hn, _⟩ := I6.loc
      exact ends_of_post (hRR D ce.locals z1 m K I7 qq hn fC)
    · refine thnF (T.item (X.blk s3 H3 scope ce fp) rfl rfl rfl hc i [] z _ K (fun _ _ => False) Iz (off Iz nz) stz go) fun r z1 ⟨u, hr, h6⟩ => ?_
      subst hr
      refine thnF h6 fun _ z2 ⟨x, H7, I7, r7, y7, st7, n7⟩ => ?_
      refine thnF (pg.run _ z2 _ H7 x u _ (I7.pinned (off I7 n7) (T.obj _ _ st7)) r7 (step x H7 y7)) fun _ z3 ⟨σ8, H8, I8, hw8, q8⟩ => ?_
      refine thnF (pt.run _ z3 σ8 H8 _ I8 q8) fun b z4 ⟨H9, I9, q9⟩ => ?_
      have ends : ∀ {z' : Shared} {H' : Hp}, Inv (X.blk s3 H3 scope ce fp) ([] ++ pinsAt fp z2.heap) σ8 H' z' → Nx H' → ∃ m, m < n ∧ ∃ i K, Inv (X.blk s3 H3 scope ce fp) [] (wipe σ (own.map (·.2))) K z' ∧ tn i z'.heap ∧ (∀ b ∈ fp, K b = none) ∧ W i m K := fun {z' H'} I' nx => by
        obtain ⟨m', hm, w'⟩ := hNx H' nx
        have held : ∀ b ∈ fp, ∀ o, z2.heap.get? b = some o → z'.heap.get? b = some o ∧ H' b = none := fun b hb o e =>
          have z := I'.pin (b, o) (List.mem_append_right _ (List.mem_append_right _ (mem_pinsAt hb e)))
          ⟨z.1, z.2.1⟩
        refine ⟨m', hm, i + 1, H', (I'.unpinned (pins := [])).weak (by rw [← hw8, wipe_length]) (fun j v e => by rw [← hw8] at e; exact (wipe_some e).1), T.keep _ _ _ st7 fun b hb o e => (held b hb o e).1, fun b hb => ?_, w'⟩
        obtain ⟨o, e, _⟩ := T.obj _ _ st7 b hb
        exact (held b hb o e).2
      cases b with
      | false =>
        simp only [Bool.false_eq_true, if_false] at q9 ⊢
        exact ends I9 q9
      | true =>
        simp only [if_true] at q9 ⊢
        have run := (pe (notedBy (model X.prog X.w) X.A ce fun e z' => compEnds (model X.prog X.w) X.A X.xe use Qf (.ref D) ce (.error e) z') fun σ' pn H' s' e z' J c => by
          have J' := J.unwish
          obtain ⟨IX, fC⟩ := back J'
          obtain ⟨m, hn, _⟩ := J'.loc
          exact comp_flew hst hfr cF tk IX fC hn (fun _ _ _ h => h) c).run _ z4 σ8 H9 _ (I9.wish _) q9
        refine wpAny_mono run (fun v z5 ⟨yv, H10, I10, r10, acc, hD10, hz10, nx⟩ => ?_) fun _ _ y => y
        exact app_ok (X := X.blk s3 H3 scope ce fp) I10.unwish hD10 hz10 r10 fun z6 I11 => ends I11 nx
  exact codeAny_compStart_list loop (T.self X.A 0 _ _ _ st4 loop)
/-- name = [..] on one line, the name a local -/
theorem ps_setLcX {i : Nat} {y : Str} {py : Pos} (hc : X.calm = true) (hN : X.N.Nodup) (hst : X.stack = X.env :: X.outer) (hfr : X.env.frame = some X.env.locals) (tk : Takes X (wE E)) (hy : X.N[i]? = some y) (hyl : X.env.scope.names.lookup y = some .local)
    (hsw : swapsWith (.ListComp elt [⟨tg, iter, ifs, 0⟩] scope pos) (some (.Name y py)) spos.line X.env = pure true) (hi : PI X tg iter wi) (ok : BlkOk X.N X.env.scope scope own)
    (hg : ∀ (s : Shared) (H : Hp) (C : Addr) (cl : List (Str × Addr)) (fp : List Addr), PG (X.blk s H scope (compEnvC scope cl C X.env) fp) tg g) (ht : ∀ (s : Shared) (H : Hp) (C : Addr) (cl : List (Str × Addr)) (fp : List Addr), PTs (X.blk s H scope (compEnvC scope cl C X.env) fp) ifs tt)
    (he : ∀ (s : Shared) (H : Hp) (C : Addr) (cl : List (Str × Addr)) (fp : List Addr) (xe : Value → Shared → Prop), (∀ σ, PassesAt (L2.CX X.prog X.w) ((X.blk s H scope (compEnvC scope cl C X.env) fp).wish xe) σ E) → PE ((X.blk s H scope (compEnvC scope cl C X.env) fp).wish xe) elt te)
    (hs : ∀ x, foldedSetIterable iter X.env x = pure x := by intro _; rfl) :
    PS X (.Assign [.Name y py] (.ListComp elt [⟨tg, iter, ifs, 0⟩] scope pos) spos) (tAsg (tLc wi g tt te (own.map (·.2))) (gName i)) := by
  refine ⟨fun pins s σ H D I h => ?_⟩
  rw [exec_Assign_Name_used _ _ _ _ hsw]
  refine wpAny_bind (wpAny_standAt (wpAny_bind ?_))
  show wpAny _ X.A (do let _ ← comprehension (.ListComp elt [⟨tg, iter, ifs, 0⟩] scope pos) scope X.env (firstIterPos [⟨tg, iter, ifs, 0⟩] pos) (newList []) false (eval iter X.env) (some (assign (.Name y py) X.env))) _ _ s
  refine wpAny_bind (thn (lcX (E := E) (Q := fun x H1 => gName i x σ H1 D.nx) (Qf := fun _ z => SP X pins D .next z) hc hN hst hfr tk I hi ok hg ht he hs h fun L C z m H' I' q hn f => ?_) fun _ _ hq => wpAny_pure (wpAny_pure hq))
  show wpAny _ _ (assign (.Name y py) X.env (.ref L)) _ _ _
  refine wpAny_assign_Name (store_ok2 (v := V.ref L) I' hN hy (.inl hyl) rfl (fun z2 I2 ⟨a, sb, ha⟩ => ?_) (.inr hyl))
  have hCa : C ≠ a := ha.elim (fun e => by rw [e]; exact f.2.1) fun e z => f.2.2.2.2.1 y a e z.symm
  exact ⟨m, hn.sameBut sb hCa, fun h3 sb3 => ⟨_, H', I2.turned (t' := z2.toks) (fun b o hb e => (sb3.2 b hb).trans e) f.1 f.2.1 f.2.2.2.1 f.2.2.2.2.1 f.2.2.2.2.2, q⟩⟩
end
end
end Shf

/-! texts by their signs; seat_of, read -/
namespace Shf
open PySem L2
section
variable {H : Hp} {Q : VK}
theorem eq_SL {l m : List Nat} (q : Q (.bl (decide (l = m))) H) : rEq (.str (SX.S l)) (.str (SX.S m)) H Q := ⟨rfl, by
  have e : decide (V.str (SX.S l) = V.str (SX.S m)) = decide (l = m) := dec_iff ⟨fun h => SX.S_inj (V.str.inj h), fun h => by rw [h]⟩
  rw [e]; exact q⟩
theorem ne_SL {l m : List Nat} (q : Q (.bl (!decide (l = m))) H) : rNe (.str (SX.S l)) (.str (SX.S m)) H Q := ⟨rfl, by
  have e : decide (V.str (SX.S l) = V.str (SX.S m)) = decide (l = m) := dec_iff ⟨fun h => SX.S_inj (V.str.inj h), fun h => by rw [h]⟩
  rw [e]; exact q⟩
theorem len_SL {l : List Nat} (h : l.length ≤ 100000) (q : Q (.int (l.length : Nat)) H) : rLenSt [.str (SX.S l)] H Q := ⟨SX.S l, rfl, by rw [SX.S_len]; exact zl h, by rw [SX.S_len]; exact q⟩
theorem ix_SL {l : List Nat} {z : Int} {i c : Nat} (h : l[i]? = some c) (hl : l.length ≤ 100000) (e : z = (i : Int)) (q : Q (.str (SX.S [c])) H) : rIxS (.str (SX.S l)) (.int z) H Q := by
  refine ⟨SX.S l, z, c, rfl, rfl, by rw [SX.S_len]; exact zl hl, ?_, q⟩
  have hi := (List.getElem?_eq_some_iff.mp h).1
  show atI l z = some c
  unfold atI ixN
  rw [if_pos (by omega), if_pos (by omega)]
  show l[z.toNat]? = some c
  rw [show z.toNat = i by omega]
  exact h
theorem ix_Sl {l : List Nat} {z : Int} {c : Nat} (h : l.getLast? = some c) (hl : l.length ≤ 100000) (e : z = -1) (q : Q (.str (SX.S [c])) H) : rIxS (.str (SX.S l)) (.int z) H Q := by
  refine ⟨SX.S l, z, c, rfl, rfl, by rw [SX.S_len]; exact zl hl, ?_, q⟩
  show atI l z = some c
  have hne : l ≠ [] := fun e => by rw [e] at h; cases h
  have hpos : 0 < l.length := List.length_pos_iff.mpr hne
  unfold atI ixN
  rw [e, if_neg (by decide), if_pos (by omega)]
  show l[(-1 + (l.length : Int)).toNat]? = some c
  rw [show (-1 + (l.length : Int)).toNat = l.length - 1 by omega, ← List.getLast?_eq_getElem?]
  exact h
theorem nin_S {c : Nat} {m : List Nat} (q : Q (.bl (!decide (c ∈ m))) H) : rNotInS (.str (SX.S [c])) (.str (SX.S m)) H Q := ⟨c, SX.S m, rfl, rfl, q⟩
theorem in_S {c : Nat} {m : List Nat} (q : Q (.bl (decide (c ∈ m))) H) : rInS (.str (SX.S [c])) (.str (SX.S m)) H Q := ⟨c, SX.S m, rfl, rfl, q⟩
end
/-- for sign in text -/
theorem for_S {l : List Nat} {g : TG} {tb : TS} {D : Ends} {σ : L2.St} {H : Hp} (Pv : Nat → L2.St → Hp → Prop) (h0 : Pv 0 σ H)
    (hs : ∀ i c σ H, l[i]? = some c → Pv i σ H → g (.str (SX.S [c])) σ H fun σ2 H2 => tb { D with nx := Pv (i + 1), ct := Pv (i + 1), bk := D.nx } σ2 H2) (hd : ∀ σ H, Pv l.length σ H → D.nx σ H) :
    ∃ W : Nat → Nat → L2.St → Hp → Prop, (∃ m, W 0 m σ H) ∧ ∀ i m σ H, W i m σ H →
      ((Its (SX.S l)).stop i H ∧ D.nx σ H) ∨ ((Its (SX.S l)).go i H ∧ ∃ N : L2.St → Hp → Prop, (∀ σ' H', N σ' H' → ∃ m', m' < m ∧ W (i + 1) m' σ' H') ∧ ∀ x H', (Its (SX.S l)).yld i H x H' → g x σ H' fun σ2 H2 => tb { D with nx := N, ct := N, bk := D.nx } σ2 H2) := by
  have w : Walk (Its (SX.S l)) l.length (fun _ => True) (fun i H v H' => H' = H ∧ ∃ c, (SX.S l).cps[i]? = some c ∧ v = .str ⟨#[c]⟩) := walk_str (z := SX.S l)
  refine for_it w Pv h0 (fun _ _ _ _ _ => trivial) (fun i x σ H H' hi p y => ?_) hd
  obtain ⟨rfl, c, hc, rfl⟩ := y
  refine hs i c σ H' ?_ p
  have : (SX.S l).cps[i]? = l[i]? := by show l.toArray[i]? = _; rw [List.getElem?_toArray]
  rw [← this]; exact hc
theorem w_istr {te : TE} {σ : L2.St} {H : Hp} {R : It → Hp → Prop} (h : te σ H fun v H1 => ∃ x, v = .str x ∧ R (Its x) H1) : iStr te σ H R := h
theorem w_slT {r : V → Option Int → Option Int → Hp → VK → Prop} {te : TE} {tl th : TO} {σ : L2.St} {H : Hp} {Q : VK} (h : te σ H fun x H1 => tl σ H1 fun l H2 => th σ H2 fun u H3 => r x l u H3 Q) : L2.tSl r te tl th σ H Q := h
theorem w_part {t : TE} {σ : L2.St} {H : Hp} {Q : Option Int → Hp → Prop} (h : t σ H fun x H1 => ∃ i, x = .int i ∧ Q (some i) H1) : tPart t σ H Q := h
theorem w_m1 {r : V → List V → Hp → VK → Prop} {to te : TE} {σ : L2.St} {H : Hp} {Q : VK} (h : to σ H fun x H1 => (∃ a, x = .str a) ∧ te σ H1 fun y H2 => r x [y] H2 Q) : tM1 r to te σ H Q := h
theorem w_din {td ty : TE} {σ : L2.St} {H : Hp} {Q : VK} (h : ty σ H fun y H1 => td σ H1 fun x H2 => ∃ a o, x = .ref a ∧ DGet H2 a y o ∧ Q (.bl o.isSome) H2) : tDIn ty td σ H Q := h
/-! ### literals -/
theorem lit0 : ("" : Str) = SX.S [] := by rfl
theorem litP : ("()" : Str) = SX.S [40, 41] := by rfl
theorem litA : ("(" : Str) = SX.S [40] := by rfl
theorem litZ : (")" : Str) = SX.S [41] := by rfl
theorem litB : (")(" : Str) = SX.S [41, 40] := by rfl
theorem litS : (" " : Str) = SX.S [32] := by rfl
theorem lit00 : ("0" : Str) = SX.S [48] := by rfl
theorem litF : ("0123456789" : Str) = SX.S [48, 49, 50, 51, 52, 53, 54, 55, 56, 57] := by rfl
/-! ### what is read -/
def digB (c : Nat) : Bool := decide (48 ≤ c) && decide (c ≤ 57)
theorem dig_in {c : Nat} : c ∈ [48, 49, 50, 51, 52, 53, 54, 55, 56, 57] ↔ digB c = true := by
  unfold digB
  simp only [List.mem_cons, List.not_mem_nil, or_false, Bool.and_eq_true, decide_eq_true_eq]
  omega
/-- the seat that a word writes -/
def seatP (n : Nat) (w : List Nat) : Option Nat :=
  if w = [] ∨ 2 < w.length ∨ (w.head? = some 48 ∧ 1 < w.length) then none
  else if w.all digB = true then (if NumText.digitsVal w < n then some (NumText.digitsVal w) else none) else none
theorem seatP_lt {n : Nat} {w : List Nat} {v : Nat} (h : seatP n w = some v) : v < n := by
  unfold seatP at h
  split at h
  · cases h
  · split at h
    · split at h
      · rename_i h3
        rw [← Option.some.inj h]; exact h3
      · cases h
    · cases h
def seatsP (n : Nat) : List (List Nat) → Option (List Nat)
  | [] => some []
  | w :: ws => match seatP n w with
    | none => none
    | some v => (seatsP n ws).map (v :: ·)
theorem seatsP_snoc {n : Nat} : ∀ (ws : List (List Nat)) (w : List Nat), seatsP n (ws ++ [w]) = (seatsP n ws).bind fun r => (seatP n w).map fun v => r ++ [v]
  | [], w => by
    show (match seatP n w with | none => none | some v => (some ([] : List Nat)).map (v :: ·)) = _
    cases seatP n w <;> rfl
  | x :: ws, w => by
    show (match seatP n x with | none => none | some v => (seatsP n (ws ++ [w])).map (v :: ·)) = Option.bind (match seatP n x with | none => none | some v => (seatsP n ws).map (v :: ·)) _
    rw [seatsP_snoc ws w]
    cases seatP n x with
    | none => rfl
    | some v =>
      cases seatsP n ws with
      | none => rfl
      | some r => cases seatP n w <;> rfl
theorem seatsP_lt {n : Nat} : ∀ {ws : List (List Nat)} {r : List Nat}, seatsP n ws = some r → ∀ x ∈ r, x < n
  | [], r, h, x, hx => by
    rw [← Option.some.inj h] at hx; cases hx
  | w :: ws, r, h, x, hx => by
    have h : (match seatP n w with | none => none | some v => (seatsP n ws).map (v :: ·)) = some r := h
    cases e : seatP n w with
    | none => rw [e] at h; cases h
    | some v =>
      rw [e] at h
      cases e2 : seatsP n ws with
      | none => rw [e2] at h; cases h
      | some r' =>
        rw [e2] at h
        have h : v :: r' = r := Option.some.inj h
        subst h
        rcases List.mem_cons.mp hx with hx | hx
        · rw [hx]; exact seatP_lt e
        · exact seatsP_lt e2 x hx
theorem seatsP_len {n : Nat} : ∀ {ws : List (List Nat)} {r : List Nat}, seatsP n ws = some r → r.length = ws.length
  | [], r, h => by rw [← Option.some.inj h] <;> rfl
  | w :: ws, r, h => by
    have h : (match seatP n w with | none => none | some v => (seatsP n ws).map (v :: ·)) = some r := h
    cases e : seatP n w with
    | none => rw [e] at h; cases h
    | some v =>
      rw [e] at h
      cases e2 : seatsP n ws with
      | none => rw [e2] at h; cases h
      | some r' =>
        rw [e2] at h
        have h : v :: r' = r := Option.some.inj h
        rw [← h, List.length_cons, List.length_cons, seatsP_len e2]
/-- a fold that may fail -/
def foldO {α β : Type} (f : α → β → Option α) : α → List β → Option α
  | s, [] => some s
  | s, x :: l => (f s x).bind fun t => foldO f t l
theorem foldO_app {α β : Type} {f : α → β → Option α} : ∀ (a b : List β) (s : α), foldO f s (a ++ b) = (foldO f s a).bind fun t => foldO f t b
  | [], b, s => rfl
  | x :: a, b, s => by
    show (f s x).bind (fun t => foldO f t (a ++ b)) = ((f s x).bind fun t => foldO f t a).bind _
    cases f s x with
    | none => rfl
    | some t => exact foldO_app a b t
theorem foldO_snoc {α β : Type} {f : α → β → Option α} {a : List β} {x : β} {s t : α} (h : foldO f s a = some t) : foldO f s (a ++ [x]) = f t x := by
  rw [foldO_app, h]
  show (f t x).bind (fun t => some t) = f t x
  cases f t x <;> rfl
theorem foldO_pre {α β : Type} {f : α → β → Option α} {a b : List β} {s : α} (h : foldO f s a = none) : foldO f s (a ++ b) = none := by
  rw [foldO_app, h] <;> rfl
abbrev RdSt := List Nat × List Nat
def stepP (r : List Nat) (st : RdSt) (k : Nat) : Option RdSt := if r.getD k 0 ∈ st.2 then none else some (st.1.set (r.getD k 0) (r.getD ((k + 1) % r.length) 0), st.2 ++ [r.getD k 0])
def ringP (n : Nat) (st : RdSt) (part : List Nat) : Option RdSt := (seatsP n (TL.spl [32] 0 [] part)).bind fun r => if r.length < 2 then none else foldO (stepP r) st (List.range r.length)
def innL (t : List Nat) : List Nat := (t.drop 1).take (t.length - 2)
def partsL (t : List Nat) : List (List Nat) := TL.spl [41, 40] 0 [] (innL t)
/-- the seating that a text writes -/
def readP (n : Nat) (t : List Nat) : Option (List Nat) :=
  if t = [40, 41] then some (List.range n)
  else if t.length < 2 ∨ t.head? ≠ some 40 ∨ t.getLast? ≠ some 41 then none
  else (foldO (ringP n) (List.range n, []) (partsL t)).map (·.1)
theorem spl_size (S : List Nat) : ∀ (l : List Nat) (k : Nat) (acc : List Nat), (TL.spl S k acc l).length ≤ l.length + 1 ∧ ∀ p ∈ TL.spl S k acc l, p.length ≤ acc.length + l.length
  | [], k, acc => by rw [TL.spl_nil]; exact ⟨Nat.le_refl _, fun p hp => by rw [List.mem_singleton.mp hp]; exact Nat.le_refl _⟩
  | c :: r, 0, acc => by
    cases h : TL.pre S (c :: r) with
    | true =>
      rw [TL.spl_hit h]
      obtain ⟨i1, i2⟩ := spl_size S r (S.length - 1) []
      refine ⟨by rw [List.length_cons, List.length_cons]; omega, fun p hp => ?_⟩
      rcases List.mem_cons.mp hp with rfl | hp
      · omega
      · have := i2 p hp; rw [List.length_cons]; have : p.length ≤ 0 + r.length := this; omega
    | false =>
      rw [TL.spl_miss h]
      obtain ⟨i1, i2⟩ := spl_size S r 0 (acc ++ [c])
      refine ⟨by rw [List.length_cons]; omega, fun p hp => ?_⟩
      have := i2 p hp
      rw [List.length_append] at this
      rw [List.length_cons]
      have : p.length ≤ acc.length + 1 + r.length := this
      omega
  | c :: r, k + 1, acc => by
    show (TL.spl S k acc r).length ≤ _ ∧ ∀ p ∈ TL.spl S k acc r, _
    obtain ⟨i1, i2⟩ := spl_size S r k acc
    exact ⟨by rw [List.length_cons]; omega, fun p hp => by have := i2 p hp; rw [List.length_cons]; omega⟩
def sp_seat_of (K : PySem.W.Frag) (g : Gd) : Sp := fun vs H Q E => ∃ (w : List Nat) (n : Nat), vs = [.str (SX.S w), .int (n : Int)] ∧ w.length ≤ 100000 ∧ (seatP n w = none → E (.ref g.NotRead) none H) ∧ (∀ v, seatP n w = some v → Q (.int ((v : Nat) : Int)) H)
theorem len_seat_of (K : PySem.W.Frag) (g : Gd) (vs : List V) (H : Hp) (Q : VK) (E : XK) (h : sp_seat_of K g vs H Q E) : vs.length = 2 := by obtain ⟨_, _, rfl, _⟩ := h; rfl
abbrev N_seat_of : List Str := ["word", "size", "sign", "seat"]
/-- seat_of -/
def t_seat_of (K : PySem.W.Frag) (g : Gd) (E : XK) : TS :=
  (tSeq (tIfS (tOr (tTest (tOp rEq (tVar 0) (tC (.str "")))) (tOr (tTest (tOp rGtI (tCB rLenSt (tCons (tVar 0) tNil)) (tC (.int 2)))) (tAnd (tTest (tOp rEq (tOp rIxS (tVar 0) (tC (.int 0))) (tC (.str "0")))) (tTest (tOp rGtI (tCB rLenSt (tCons (tVar 0) tNil)) (tC (.int 1))))))) (tRaiseW (wE E) g.NotRead) tNext)
    (tSeq (tFor (iStr (tVar 0)) (gName 2) (tIfS (tTest (tOp rNotInS (tVar 2) (tC (.str "0123456789")))) (tRaiseW (wE E) g.NotRead) tNext))
    (tSeq (tAsg (tCB rIntS (tCons (tVar 0) tNil)) (gName 3))
    (tSeq (tIfS (tTest (tOp rGeI (tVar 3) (tVar 1))) (tRaiseW (wE E) g.NotRead) tNext)
    (tRet (tVar 3))))))
theorem pure_seat_of {K : PySem.W.Frag} {g : Gd} (vs : List V) (H : Hp) (Q : VK) (E : XK) (h : sp_seat_of K g vs H Q E) : Rd1 (t_seat_of K g E) N_seat_of vs H Q := by
  obtain ⟨w, n, rfl, hw, hE, k⟩ := h
  unfold t_seat_of
  rw [lit0, lit00, litF]
  have bad : (w = [] ∨ 2 < w.length ∨ (w.head? = some 48 ∧ 1 < w.length)) → E (.ref g.NotRead) none H := fun h => hE (by unfold seatP; rw [if_pos h])
  walk_at "sq"
  refine w_join (t := tIfS _ _ _) (fun σ H' => σ = [some (.str (SX.S w)), some (.int (n : Int)), none, none] ∧ H' = H ∧ ¬ (w = [] ∨ 2 < w.length ∨ (w.head? = some 48 ∧ 1 < w.length))) ?_ fun key => ?_
  · rintro σ H' ⟨rfl, rfl, hb⟩
    have hne : w ≠ [] := fun e => hb (.inl e)
    have hl2 : w.length ≤ 2 := Nat.le_of_not_lt fun h => hb (.inr (.inl h))
    walk_at "re"
    walk_at "sq"
    walk_at "st"
    refine w_istr ?_
    walk_at "ex"
    refine ⟨_, rfl, for_S (fun i σ H2 => ∃ y, σ = [some (.str (SX.S w)), some (.int (n : Int)), y, none] ∧ H2 = H' ∧ (w.take i).all digB = true) ⟨none, rfl, rfl, by rw [List.take_zero] <;> rfl⟩ ?_ ?_⟩
    · rintro i c σ H2 hc ⟨y, rfl, rfl, hd⟩
      show tIfS _ _ _ _ (List.set _ 2 (some (V.str (SX.S [c])))) H2
      walk_at "st"
      walk_at "ex"
      refine nin_S ?_
      walk_at "ex"
      refine if_nd (fun z => ?_) (fun z => ?_)
      · refine w_raise (hE ?_)
        unfold seatP
        rw [if_neg hb, if_neg]
        intro ha
        exact z (dig_in.mpr (List.all_eq_true.mp ha c (List.mem_of_getElem? hc)))
      · refine ⟨_, rfl, rfl, ?_⟩
        rw [take_more hc, List.all_append, hd, List.all_cons, dig_in.mp z] <;> rfl
    · rintro σ H2 ⟨y, rfl, rfl, hd⟩
      rw [List.take_length] at hd
      have hv : intText? (SX.S w) = some ((NumText.digitsVal w : Nat) : Int) := SX.int_S hd hne (by omega)
      walk_at "re"
      walk_at "sq"
      walk_at "re"
      refine ⟨SX.S w, _, rfl, hv, by rw [SX.S_len]; omega, ?_⟩
      walk_at "re"
      walk_at "sq"
      walk_at "st"
      walk_at "ex"
      refine if_d (fun z => ?_) (fun z => ?_)
      · refine w_raise (hE ?_)
        unfold seatP
        rw [if_neg hb, if_pos hd, if_neg (by omega)]
      · walk_at "rd"
        refine k _ ?_
        unfold seatP
        rw [if_neg hb, if_pos hd, if_pos (by omega)]
  · refine w_if ?_
    refine w_or ?_
    walk_at "ex"
    refine eq_SL ?_
    walk_at "ex"
    refine if_d (fun c => if_t rfl (w_raise (bad (.inl c)))) (fun c1 => ?_)
    refine w_or ?_
    walk_at "ex"
    refine len_SL hw ?_
    walk_at "ex"
    refine if_d (fun c => if_t rfl (w_raise (bad (.inr (.inl (by omega)))))) (fun c2 => ?_)
    obtain ⟨c0, w', ew⟩ : ∃ c0 w', w = c0 :: w' := by
      cases w with
      | nil => exact absurd rfl c1
      | cons a b => exact ⟨a, b, rfl⟩
    refine w_and ?_
    walk_at "ex"
    refine ix_SL (i := 0) (c := c0) (by rw [ew] <;> rfl) hw rfl ?_
    walk_at "ex"
    refine eq_SL ?_
    walk_at "ex"
    refine if_d (fun c3 => ?_) (fun c3 => ?_)
    · walk_at "ex"
      refine len_SL hw ?_
      walk_at "ex"
      refine if_d (fun c4 => w_raise (bad (.inr (.inr ⟨?_, by omega⟩)))) (fun c4 => key _ _ ⟨rfl, rfl, ?_⟩)
      · rw [ew]
        have : c0 = 48 := by simpa using c3
        rw [this] <;> rfl
      · rintro (h | h | h)
        · exact c1 h
        · omega
        · omega
    · refine if_f rfl (key _ _ ⟨rfl, rfl, ?_⟩)
      rintro (h | h | h)
      · exact c1 h
      · omega
      · refine c3 ?_
        have h1 := h.1
        rw [ew] at h1
        have : c0 = 48 := Option.some.inj h1
        rw [this]
end Shf

/-! read -/
namespace Shf
open PySem L2
theorem str_get {l : List (List Nat)} {i : Nat} {x : V} (h : ((l.map SX.S).map V.str)[i]? = some x) : ∃ p, l[i]? = some p ∧ x = V.str (SX.S p) := by
  rw [List.getElem?_map, List.getElem?_map] at h
  cases e : l[i]? with
  | none => rw [e] at h; cases h
  | some p => rw [e] at h; exact ⟨p, rfl, (Option.some.inj h).symm⟩
theorem seatsP_app {n : Nat} : ∀ (a b : List (List Nat)), seatsP n (a ++ b) = (seatsP n a).bind fun r => (seatsP n b).map (r ++ ·)
  | [], b => by
    show seatsP n b = (seatsP n b).map _
    cases seatsP n b <;> rfl
  | x :: a, b => by
    show (match seatP n x with | none => none | some v => (seatsP n (a ++ b)).map (v :: ·)) = Option.bind (match seatP n x with | none => none | some v => (seatsP n a).map (v :: ·)) _
    rw [seatsP_app a b]
    cases seatP n x with
    | none => rfl
    | some v =>
      cases seatsP n a with
      | none => rfl
      | some r => cases seatsP n b <;> rfl
theorem inn_cut {t : List Nat} (h : 2 ≤ t.length) : cutS (SX.S t) (some 1) (some (-1)) = SX.S (innL t) := by
  unfold cutS innL
  rw [SX.S_len]
  have e1 : HT.sIx t.length 0 (some 1) = 1 := by
    show (if (1 : Int) < 0 then ((1 : Int) + (t.length : Int)).toNat else min (1 : Int).toNat t.length) = 1
    rw [if_neg (by decide)]
    show min 1 t.length = 1
    omega
  have e2 : HT.sIx t.length t.length (some (-1)) = t.length - 1 := by
    show (if (-1 : Int) < 0 then ((-1 : Int) + (t.length : Int)).toNat else min (-1 : Int).toNat t.length) = _
    rw [if_pos (by decide)]
    omega
  rw [e1, e2, show t.length - 1 - 1 = t.length - 2 by omega]
theorem split_new {a b : List Nat} {H : Hp} {Q : VK} (hb : b ≠ []) (hk : b.all (· < 256) = true) (hl : a.length ≤ 90000) (k : ∀ p, H p = none → Q (.ref p) (upd H p (.lst (((TL.spl b 0 [] a).map SX.S).map V.str)))) : rSplit (.str (SX.S a)) [.str (SX.S b)] H Q := by
  refine ⟨SX.S a, SX.S b, rfl, rfl, ?_, by rw [SX.S_len]; exact zl (by omega), fun p hp => ?_⟩
  · rw [SX.S_len]
    cases b with
    | nil => exact absurd rfl hb
    | cons x y => rfl
  · rw [SX.split_S hb hk]
    exact k p hp
theorem range_cut {n j : Nat} (h : j + 1 ≤ n) : List.range n = List.range (j + 1) ++ (List.range n).drop (j + 1) := by
  conv => lhs; rw [← List.take_append_drop (j + 1) (List.range n)]
  rw [List.take_range, Nat.min_eq_left h]
/-- what the reading holds -/
structure RdAt (m : Nat) (H : Hp) (l d : Addr) (st : RdSt) : Prop where
  row : H l = some (.lst (vN st.1))
  len : st.1.length = m
  dic : ∃ kvs, H d = some (.dK kvs) ∧ DK kvs (· ∈ st.2) ∧ kvs.length ≤ st.2.length
  nd : st.2.Nodup
  lt : ∀ x ∈ st.2, x < m
theorem RdAt.mono {m : Nat} {H H' : Hp} {l d : Addr} {st : RdSt} (h : RdAt m H l d st) (s : Same H H') : RdAt m H' l d st := by
  obtain ⟨kvs, h1, h2, h3⟩ := h.dic
  exact ⟨s _ _ h.row, h.len, ⟨kvs, s _ _ h1, h2, h3⟩, h.nd, h.lt⟩
def sp_read (K : PySem.W.Frag) (g : Gd) : Sp := fun vs H Q E => ∃ (t : List Nat) (z : Int), vs = [.str (SX.S t), .int z] ∧ t.length ≤ 10000 ∧ (¬ (1 ≤ z ∧ z ≤ 16) → E (.ref g.NoSize) none H) ∧
  ∀ n : Nat, z = (n : Int) → 1 ≤ n → n ≤ 16 → (readP n t = none → ∀ H', Same H H' → E (.ref g.NotRead) none H') ∧ (∀ row, readP n t = some row → NewT H row Q)
theorem len_read (K : PySem.W.Frag) (g : Gd) (vs : List V) (H : Hp) (Q : VK) (E : XK) (h : sp_read K g vs H Q E) : vs.length = 2 := by obtain ⟨_, _, rfl, _⟩ := h; rfl
abbrev N_read : List Str := ["text", "size", "row", "used", "part", "ring", "k", "word"]
/-- read -/
def t_read (K : PySem.W.Frag) (g : Gd) (E : XK) : TS :=
  (tSeq (tDrop (tCallS (sp_ask_size K g) (WE (wE E)) (tCons (tVar 1) tNil)))
    (tSeq (tAsg (tCB (rListOf K) (tCons (tCallS (sp_rest K g) (WE (wE E)) (tCons (tVar 1) tNil)) tNil)) (gName 2))
    (tSeq (tIfS (tTest (tOp rEq (tVar 0) (tC (.str "()")))) (tRet (tCB (rTupOf K) (tCons (tVar 2) tNil))) tNext)
    (tSeq (tIfS (tOr (tTest (tOp rLtI (tCB rLenSt (tCons (tVar 0) tNil)) (tC (.int 2)))) (tOr (tTest (tOp rNe (tOp rIxS (tVar 0) (tC (.int 0))) (tC (.str "(")))) (tTest (tOp rNe (tOp rIxS (tVar 0) (tUn (rU fun i => .int (-i)) (tC (.int 1)))) (tC (.str ")")))))) (tRaiseW (wE E) g.NotRead) tNext)
    (tSeq (tAsg tDNewK (gName 3))
    (tSeq (tFor (iList K (tM1 rSplit (tSl rSlS (tVar 0) (tPart (tC (.int 1))) (tPart (tUn (rU fun i => .int (-i)) (tC (.int 1))))) (tC (.str ")(")))) (gName 4) (tSeq (tAsg (tLc (iList K (tM1 rSplit (tVar 4) (tC (.str " ")))) (gName 7) tYes (tCallS (sp_seat_of K g) (fun _ => E) (tCons (tVar 7) (tCons (tVar 1) tNil))) [7]) (gName 5))
    (tSeq (tIfS (tTest (tOp rLtI (tCB (rLenQ K) (tCons (tVar 5) tNil)) (tC (.int 2)))) (tRaiseW (wE E) g.NotRead) tNext)
    (tFor (iRng1 (tCons (tCB (rLenQ K) (tCons (tVar 5) tNil)) tNil)) (gName 6) (tSeq (tIfS (tB (tDIn (tOp (rIxL K) (tVar 5) (tVar 6)) (tVar 3))) (tRaiseW (wE E) g.NotRead) tNext)
    (tSeq (sDPut (tVar 3) (tOp (rIxL K) (tVar 5) (tVar 6)) (tC (.bl true)))
    (tAsg (tOp (rIxL K) (tVar 5) (tOp rModI (tOp rAddI (tVar 6) (tC (.int 1))) (tCB (rLenQ K) (tCons (tVar 5) tNil)))) (gSub (tVar 2) (tOp (rIxL K) (tVar 5) (tVar 6)) rSetL))))))))
    (tRet (tCB (rTupOf K) (tCons (tVar 2) tNil)))))))))
theorem pure_read {K : PySem.W.Frag} {g : Gd} (vs : List V) (H : Hp) (Q : VK) (E : XK) (h : sp_read K g vs H Q E) : Rd1 (t_read K g E) N_read vs H Q := by
  obtain ⟨t, z, rfl, ht, hE, hn⟩ := h
  unfold t_read
  rw [litP, litA, litZ, litB, litS]
  walk_at "re"
  walk_at "sq"
  walk_at "re"
  refine ⟨z, rfl, fun hz => ?_, hE⟩
  obtain ⟨n, en, h1, h16⟩ : ∃ n : Nat, z = (n : Int) ∧ 1 ≤ n ∧ n ≤ 16 := ⟨z.toNat, by omega, by omega, by omega⟩
  subst en
  obtain ⟨hno, hyes⟩ := hn n rfl h1 h16
  clear hE hn
  walk_at "re"
  walk_at "sq"
  walk_at "re"
  refine ⟨(n : Int), rfl, fun _ p0 H0 s0 hp0 hp00 => ?_, fun bad => absurd hz bad⟩
  rw [Int.toNat_natCast] at hp00
  walk_at "re"
  refine ⟨p0, _, rfl, .inr (sqT hp00), fun l hl => ?_⟩
  have s1 : Same H (upd H0 l (.lst (vN (List.range n)))) := s0.new hl
  have hl1 : (upd H0 l (.lst (vN (List.range n)))) l = some (.lst (vN (List.range n))) := upd_same
  have hl0 : H l = none := s0.free hl
  generalize upd H0 l (.lst (vN (List.range n))) = H1 at *
  clear hp00
  walk_at "re"
  walk_at "sq"
  walk_at "st"
  walk_at "ex"
  refine eq_SL ?_
  walk_at "ex"
  refine if_d (fun c0 => ?_) (fun c0 => ?_)
  · walk_at "rd"
    refine tup_L (sqL hl1) fun r hr => ?_
    exact hyes _ (by unfold readP; rw [if_pos c0]) r _ (s1.new hr) (s1.free hr) upd_same
  have bad : (t.length < 2 ∨ t.head? ≠ some 40 ∨ t.getLast? ≠ some 41) → ∀ H', Same H H' → E (.ref g.NotRead) none H' := fun h => hno (by unfold readP; rw [if_neg c0, if_pos h])
  walk_at "re"
  walk_at "sq"
  refine w_join (t := tIfS _ _ _) (fun σ H' => σ = [some (.str (SX.S t)), some (.int (n : Int)), some (.ref l), none, none, none, none, none] ∧ H' = H1 ∧ ¬ (t.length < 2 ∨ t.head? ≠ some 40 ∨ t.getLast? ≠ some 41)) ?_ fun key => ?_
  · rintro σ H' ⟨rfl, rfl, hb⟩
    have h2 : 2 ≤ t.length := Nat.le_of_not_lt fun h => hb (.inl h)
    have hfold : foldO (ringP n) (List.range n, []) (partsL t) = none → ∀ H', Same H H' → E (.ref g.NotRead) none H' := fun h => hno (by unfold readP; rw [if_neg c0, if_neg hb, h] <;> rfl)
    have hdone : ∀ st : RdSt, foldO (ringP n) (List.range n, []) (partsL t) = some st → NewT H st.1 Q := fun st h => hyes _ (by unfold readP; rw [if_neg c0, if_neg hb, h] <;> rfl)
    clear hno hyes bad hb
    walk_at "re"
    walk_at "sq"
    walk_at "re"
    refine w_dnew fun d hd => ?_
    have s2 : Same H' (upd H' d (.dK [])) := (Same.refl H').new hd
    have hd2 : (upd H' d (.dK [])) d = some (.dK []) := upd_same
    have hd0 : H d = none := s1.free hd
    have hld : l ≠ d := ne_of_none hl1 hd
    generalize upd H' d (.dK []) = H2 at *
    have s02 := s1.trans s2
    have hl2 := s2 _ _ hl1
    walk_at "re"
    walk_at "sq"
    walk_at "st"
    refine w_ilist ?_
    refine w_m1 ?_
    refine w_slT ?_
    walk_at "ex"
    refine w_part ?_
    walk_at "ex"
    refine w_part ?_
    walk_at "ex"
    refine ⟨SX.S t, rfl, by rw [SX.S_len]; exact zl (by omega), ?_⟩
    rw [inn_cut h2]
    refine ⟨⟨_, rfl⟩, ?_⟩
    walk_at "ex"
    have hinn : (innL t).length ≤ 10000 := by unfold innL; rw [List.length_take, List.length_drop]; omega
    refine split_new (by decide) (by decide) (by omega) fun q hq => ?_
    have hq3 : (upd H2 q (.lst (((TL.spl [41, 40] 0 [] (innL t)).map SX.S).map V.str))) q = some (.lst (((partsL t).map SX.S).map V.str)) := upd_same
    have s3 : Same H2 (upd H2 q (.lst (((TL.spl [41, 40] 0 [] (innL t)).map SX.S).map V.str))) := (Same.refl H2).new hq
    have hql : q ≠ l := (ne_of_none hl2 hq).symm
    have hqd : q ≠ d := (ne_of_none hd2 hq).symm
    have hq0 : H q = none := s02.free hq
    generalize upd H2 q (.lst (((TL.spl [41, 40] 0 [] (innL t)).map SX.S).map V.str)) = H3 at *
    have s03 := s02.trans s3
    have hsz : ∀ p ∈ partsL t, p.length ≤ 10000 := fun p hp => by
      have := (spl_size [41, 40] (innL t) 0 []).2 p hp
      have : p.length ≤ 0 + (innL t).length := this
      omega
    have R3 : RdAt n H3 l d (List.range n, []) := ⟨s3 _ _ hl2, List.length_range, ⟨[], s3 _ _ hd2, DK.nil.cong fun x => ⟨fun h => h.elim, fun h => by cases h⟩, Nat.le_refl _⟩, List.nodup_nil, fun x hx => by cases hx⟩
    refine ⟨q, rfl, ⟨_, sqL hq3⟩, for_list (K := K) (a := q) (xs := ((partsL t).map SX.S).map V.str) (fun i σ Hx => ∃ (st : RdSt) (y4 y5 y6 : Option V), σ = [some (.str (SX.S t)), some (.int (n : Int)), some (.ref l), some (.ref d), y4, y5, y6, none] ∧ Same H Hx ∧ Hx q = some (.lst (((partsL t).map SX.S).map V.str)) ∧ foldO (ringP n) (List.range n, []) ((partsL t).take i) = some st ∧ RdAt n Hx l d st) ⟨_, none, none, none, rfl, s03, hq3, by rw [List.take_zero] <;> rfl, R3⟩ ?_ ?_ ?_⟩
    · rintro i σ Hx _ ⟨_, _, _, _, _, _, h, _⟩; exact sqL h
    · rintro i x σ Hx hx ⟨st, y4, y5, y6, rfl, sx, hqx, hfo, Rx⟩
      obtain ⟨part, hpart, rfl⟩ := str_get hx
      have hpl := hsz part (List.mem_of_getElem? hpart)
      have hnext : foldO (ringP n) (List.range n, []) ((partsL t).take (i + 1)) = ringP n st part := by rw [take_more hpart]; exact foldO_snoc hfo
      have hfail : ringP n st part = none → ∀ H', Same H H' → E (.ref g.NotRead) none H' := fun h => hfold (by
        rw [← List.take_append_drop (i + 1) (partsL t)]
        exact foldO_pre (by rw [hnext, h]))
      show tSeq _ _ _ (List.set _ 4 (some (V.str (SX.S part)))) Hx
      walk_at "re"
      walk_at "sq"
      walk_at "st"
      refine w_lc (w_ilist ?_)
      refine w_m1 ?_
      walk_at "ex"
      refine ⟨⟨_, rfl⟩, ?_⟩
      walk_at "ex"
      refine split_new (by decide) (by decide) (by omega) fun w hw => ?_
      have hwsz := (spl_size [32] part 0 []).1
      have hwsz2 : ∀ p ∈ TL.spl [32] 0 [] part, p.length ≤ 10000 := fun p hp => by
        have := (spl_size [32] part 0 []).2 p hp
        have : p.length ≤ 0 + part.length := this
        omega
      generalize ews : TL.spl [32] 0 [] part = ws at *
      have sw : Same Hx (upd Hx w (.lst ((ws.map SX.S).map V.str))) := (Same.refl Hx).new hw
      have hww : (upd Hx w (.lst ((ws.map SX.S).map V.str))) w = some (.lst ((ws.map SX.S).map V.str)) := upd_same
      generalize upd Hx w (.lst ((ws.map SX.S).map V.str)) = Hw at *
      have sxw := sx.trans sw
      have hring : ∀ {r}, seatsP n ws = some r → ringP n st part = if r.length < 2 then none else foldO (stepP r) st (List.range r.length) := fun {r} h => by
        unfold ringP
        rw [ews, h] <;> rfl
      refine ⟨w, rfl, ⟨_, sqL hww⟩, fun D hD => lc_list (K := K) (a := w) (xs := (ws.map SX.S).map V.str) (fun j Hy => Same Hw Hy ∧ ∃ r, seatsP n (ws.take j) = some r ∧ Hy D = some (.lst (vN r))) ?_ ?_ ?_ ?_⟩
      · exact ⟨(Same.refl Hw).new hD, [], by rw [List.take_zero] <;> rfl, upd_same⟩
      · rintro j Hy _ ⟨sy, _⟩; exact sqL (sy _ _ hww)
      · rintro j x Hy hx' ⟨sy, r, hr, hDy⟩
        obtain ⟨word, hword, rfl⟩ := str_get hx'
        refine ⟨rfl, ?_⟩
        walk_at "ex"
        refine ⟨word, n, rfl, by have := hwsz2 word (List.mem_of_getElem? hword); omega, fun hnone => ?_, fun v hv => ?_⟩
        · refine hfail ?_ _ (sxw.trans sy)
          unfold ringP
          have : seatsP n ws = none := by
            rw [← List.take_append_drop (j + 1) ws, seatsP_app, take_more hword, seatsP_snoc, hr]
            show Option.bind ((seatP n word).map _) _ = none
            rw [hnone] <;> rfl
          rw [ews, this] <;> rfl
        · have hrl := seatsP_len hr
          rw [List.length_take] at hrl
          refine ⟨vN r, hDy, by rw [vN_len]; exact zlt (by omega), sy.up hD, r ++ [v], ?_, ?_⟩
          · rw [take_more hword, seatsP_snoc, hr]
            show (seatP n word).map _ = _
            rw [hv] <;> rfl
          · rw [upd_same, ← vN_app]
      · rintro Hy ⟨sy, r, hr, hDy⟩
        have hlw : ((ws.map SX.S).map V.str).length = ws.length := by rw [List.length_map, List.length_map]
        rw [hlw, List.take_length] at hr
        have hrl := seatsP_len hr
        have hrlt := seatsP_lt hr
        have sxy := sxw.trans sy
        have Ry := (Rx.mono sw).mono sy
        have hqy := sy _ _ (sw _ _ hqx)
        have eR := hring hr
        have hDl : D ≠ l := fun z => by rw [z] at hD; have := sw _ _ Rx.row; rw [hD] at this; cases this
        have hDd : D ≠ d := fun z => by
          obtain ⟨kvs, hk, _⟩ := Rx.dic
          rw [z] at hD; have := sw _ _ hk; rw [hD] at this; cases this
        walk_at "re"
        walk_at "sq"
        walk_at "st"
        walk_at "ex"
        refine len_LN (sqL hDy) ?_
        walk_at "ex"
        refine if_d (fun c2 => ?_) (fun c2 => ?_)
        · exact w_raise (hfail (by rw [eR, if_pos (by omega)]) _ sxy)
        rw [if_neg (by omega)] at eR
        walk_at "re"
        walk_at "st"
        walk_at "re"
        refine len_LN (sqL hDy) ?_
        refine w_for1 (by omega) (fun j σ Hz => ∃ (st' : RdSt) (y6 : Option V), σ = [some (.str (SX.S t)), some (.int (n : Int)), some (.ref l), some (.ref d), some (.str (SX.S part)), some (.ref D), y6, none] ∧ Same H Hz ∧ Hz q = some (.lst (((partsL t).map SX.S).map V.str)) ∧ Hz D = some (.lst (vN r)) ∧ foldO (stepP r) st (List.range j) = some st' ∧ RdAt n Hz l d st') ⟨st, y6, rfl, sxy, hqy, hDy, rfl, Ry⟩ ?_ ?_
        · rintro j σ Hz hj ⟨st', y6, rfl, sz, hqz, hDz, hfo', Rz⟩
          obtain ⟨kvs, hkd, hDK, hkl⟩ := Rz.dic
          have hrj : r.getD j 0 < n := hrlt _ (List.mem_of_getElem? (getD_at hj))
          have hnx : foldO (stepP r) st (List.range (j + 1)) = stepP r st' j := by rw [List.range_succ]; exact foldO_snoc hfo'
          have h16' : st'.2.length ≤ 16 := by
            have := nd_sub_len (m := List.range n) Rz.nd fun x hx => List.mem_range.mpr (Rz.lt x hx)
            rw [List.length_range] at this
            omega
          walk_at "sq"
          walk_at "st"
          walk_at "ex"
          refine w_din ?_
          walk_at "ex"
          refine ix_LN (i := j) (sqL hDz) hj rfl ?_
          walk_at "ex"
          refine ⟨d, _, rfl, DGet.k (k := Sum.inl ((r.getD j 0 : Nat) : Int)) hkd, _, rfl, ?_⟩
          refine if_b (fun e => ?_) (fun e => ?_)
          · refine w_raise (hfail ?_ _ sz)
            rw [eR, range_cut (j := j) (by omega)]
            refine foldO_pre ?_
            rw [hnx]
            unfold stepP
            rw [if_pos ((hDK _).mp e)]
          · have hnin : r.getD j 0 ∉ st'.2 := fun h => by rw [(hDK _).mpr h] at e; cases e
            walk_at "re"
            walk_at "sq"
            refine w_dput ?_
            walk_at "re"
            refine ix_LN (i := j) (sqL hDz) hj rfl ?_
            refine ⟨d, _, rfl, DPut.k (k := Sum.inl ((r.getD j 0 : Nat) : Int)) hkd (zlt (by omega)), ?_⟩
            have sp1 : Same H (upd Hz d (.dK (putK kvs (Sum.inl ((r.getD j 0 : Nat) : Int)) (V.bl true)))) := sz.up hd0
            have hD1 : (upd Hz d (.dK (putK kvs (Sum.inl ((r.getD j 0 : Nat) : Int)) (V.bl true)))) D = some (.lst (vN r)) := by rw [upd_ne hDd]; exact hDz
            have hl1' : (upd Hz d (.dK (putK kvs (Sum.inl ((r.getD j 0 : Nat) : Int)) (V.bl true)))) l = some (.lst (vN st'.1)) := by rw [upd_ne hld]; exact Rz.row
            have hq1' : (upd Hz d (.dK (putK kvs (Sum.inl ((r.getD j 0 : Nat) : Int)) (V.bl true)))) q = some (.lst (((partsL t).map SX.S).map V.str)) := by rw [upd_ne hqd]; exact hqz
            have hd1' : (upd Hz d (.dK (putK kvs (Sum.inl ((r.getD j 0 : Nat) : Int)) (V.bl true)))) d = some (.dK (putK kvs (Sum.inl ((r.getD j 0 : Nat) : Int)) (V.bl true))) := upd_same
            generalize upd Hz d (.dK (putK kvs (Sum.inl ((r.getD j 0 : Nat) : Int)) (V.bl true))) = Hp_ at *
            walk_at "st"
            walk_at "re"
            refine len_LN (sqL hD1) ?_
            refine mod_I (by omega) ?_
            have em : ((j : Int) + 1) % (r.length : Int) = (((j + 1) % r.length : Nat) : Int) := by rw [Int.natCast_emod] <;> rfl
            rw [em]
            refine ix_LN (i := (j + 1) % r.length) (sqL hD1) (Nat.mod_lt _ (by omega)) rfl ?_
            walk_at "re"
            refine ix_LN (i := j) (sqL hD1) hj rfl ?_
            refine set_N (i := r.getD j 0) hl1' (by rw [Rz.len]; exact hrj) rfl ?_
            refine ⟨(st'.1.set (r.getD j 0) (r.getD ((j + 1) % r.length) 0), st'.2 ++ [r.getD j 0]), some (.int (j : Int)), rfl, sp1.up hl0, by rw [upd_ne hql]; exact hq1', by rw [upd_ne hDl]; exact hD1, ?_, ⟨upd_same, by show (st'.1.set _ _).length = n; rw [List.length_set]; exact Rz.len, ⟨_, by rw [upd_ne hld.symm]; exact hd1', (hDK.put _ _).cong fun x => ?_, ?_⟩, ?_, ?_⟩⟩
            · rw [hnx]
              unfold stepP
              rw [if_neg hnin]
            · show x ∈ st'.2 ∨ x = r.getD j 0 ↔ x ∈ st'.2 ++ [r.getD j 0]
              rw [List.mem_append, List.mem_singleton]
            · have := putK_le kvs (Sum.inl ((r.getD j 0 : Nat) : Int)) (V.bl true)
              show _ ≤ (st'.2 ++ [r.getD j 0]).length
              rw [List.length_append]
              show _ ≤ st'.2.length + 1
              omega
            · exact List.nodup_append.mpr ⟨Rz.nd, List.pairwise_singleton _ _, fun a ha b hb e => hnin (by rw [List.mem_singleton.mp hb] at e; rw [← e]; exact ha)⟩
            · intro x hx
              rcases List.mem_append.mp hx with h | h
              · exact Rz.lt x h
              · rw [List.mem_singleton.mp h]; exact hrj
        · rintro σ Hz ⟨st', y6, rfl, sz, hqz, hDz, hfo', Rz⟩
          exact ⟨st', _, _, _, rfl, sz, hqz, by rw [hnext, eR]; exact hfo', Rz⟩
    · rintro σ Hx ⟨st, y4, y5, y6, rfl, sx, hqx, hfo, Rx⟩
      have hlw : (((partsL t).map SX.S).map V.str).length = (partsL t).length := by rw [List.length_map, List.length_map]
      rw [hlw, List.take_length] at hfo
      walk_at "rd"
      refine tup_L (sqL Rx.row) fun r hr => ?_
      exact hdone st hfo r _ (sx.new hr) (sx.free hr) upd_same
  · refine w_if ?_
    refine w_or ?_
    walk_at "ex"
    refine len_SL (by omega) ?_
    walk_at "ex"
    refine if_d (fun c => if_t rfl (w_raise (bad (.inl (by omega)) _ s1))) (fun c1 => ?_)
    obtain ⟨ca, ta, et⟩ : ∃ ca ta, t = ca :: ta := by
      cases t with
      | nil => exact absurd (show (0 : Int) < 2 by decide) c1
      | cons a b => exact ⟨a, b, rfl⟩
    obtain ⟨cz, ez⟩ : ∃ cz, t.getLast? = some cz := by
      cases e : t.getLast? with
      | none => rw [List.getLast?_eq_none_iff] at e; rw [e] at et; cases et
      | some c => exact ⟨c, rfl⟩
    refine w_or ?_
    walk_at "ex"
    refine ix_SL (i := 0) (c := ca) (by rw [et] <;> rfl) (by omega) rfl ?_
    walk_at "ex"
    refine ne_SL ?_
    walk_at "ex"
    refine if_nd (fun c => if_t rfl (w_raise (bad (.inr (.inl ?_)) _ s1))) (fun c2 => ?_)
    · rw [et]
      intro h
      have : ca = 40 := Option.some.inj h
      exact c (by rw [this])
    walk_at "ex"
    refine ix_Sl (c := cz) ez (by omega) rfl ?_
    walk_at "ex"
    refine ne_SL ?_
    walk_at "ex"
    refine if_nd (fun c => w_raise (bad (.inr (.inr ?_)) _ s1)) (fun c3 => key _ _ ⟨rfl, rfl, ?_⟩)
    · rw [ez]
      intro h
      have : cz = 41 := Option.some.inj h
      exact c (by rw [this])
    · rintro (h | h | h)
      · omega
      · refine h ?_
        have : ca = 40 := by simpa using c2
        rw [et, this] <;> rfl
      · refine h ?_
        have : cz = 41 := by simpa using c3
        rw [ez, this]
end Shf

/-! the texts of seatings: mathematics -/
namespace Shf
open PySem L2
def bodyT (r : List Nat) : List Nat := TL.joinL [32] (r.map TL.numL)
def ringT (r : List Nat) : List Nat := 40 :: (bodyT r ++ [41])
def textT (rs : List (List Nat)) : List Nat := rs.flatMap ringT
def shownT (rs : List (List Nat)) : List Nat := if textT rs = [] then [40, 41] else textT rs
theorem joinL_len (S : List Nat) : ∀ l : List (List Nat), (TL.joinL S l).length ≤ (l.map (·.length)).sum + l.length * S.length
  | [] => Nat.zero_le _
  | [p] => by
    show p.length ≤ p.length + 0 + 1 * S.length
    omega
  | p :: q :: r => by
    have ih := joinL_len S (q :: r)
    show (p ++ (S ++ TL.joinL S (q :: r))).length ≤ p.length + ((q :: r).map (·.length)).sum + ((q :: r).length + 1) * S.length
    rw [List.length_append, List.length_append, Nat.succ_mul]
    omega
theorem sum_le {c : Nat} : ∀ {l : List Nat}, (∀ x ∈ l, x ≤ c) → l.sum ≤ c * l.length
  | [], _ => Nat.zero_le _
  | x :: l, h => by
    have h1 := h x List.mem_cons_self
    have h2 := sum_le (l := l) fun y hy => h y (List.mem_cons_of_mem _ hy)
    rw [List.sum_cons, List.length_cons, Nat.mul_succ]
    omega
theorem numL_2 {k : Nat} (h : k < 100) : (TL.numL k).length ≤ 2 := TL.numL_len (by decide) (by omega)
theorem nums_sum {r : List Nat} (h : ∀ x ∈ r, x < 100) : ((r.map TL.numL).map (·.length)).sum ≤ 2 * r.length := by
  have := sum_le (c := 2) (l := (r.map TL.numL).map (·.length)) fun x hx => by
    obtain ⟨w, hw, rfl⟩ := List.mem_map.mp hx
    obtain ⟨k, hk, rfl⟩ := List.mem_map.mp hw
    exact numL_2 (h k hk)
  rw [List.length_map, List.length_map] at this
  exact this
theorem bodyT_len {r : List Nat} (h : ∀ x ∈ r, x < 100) : (bodyT r).length ≤ 3 * r.length := by
  have a := joinL_len [32] (r.map TL.numL)
  have b := nums_sum h
  rw [List.length_map] at a
  have a : (bodyT r).length ≤ ((r.map TL.numL).map (·.length)).sum + r.length * 1 := a
  omega
theorem textT_snoc (rs : List (List Nat)) (r : List Nat) : textT (rs ++ [r]) = textT rs ++ ringT r := by
  unfold textT
  rw [List.flatMap_append, List.flatMap_cons, List.flatMap_nil, List.append_nil]
theorem textT_len : ∀ {rs : List (List Nat)}, (∀ r ∈ rs, r.length ≤ 16 ∧ ∀ x ∈ r, x < 100) → (textT rs).length ≤ 50 * rs.length
  | [], _ => Nat.zero_le _
  | r :: rs, h => by
    obtain ⟨h1, h2⟩ := h r List.mem_cons_self
    have ih := textT_len (rs := rs) fun y hy => h y (List.mem_cons_of_mem _ hy)
    have b := bodyT_len h2
    have e : textT (r :: rs) = ringT r ++ textT rs := by unfold textT; rw [List.flatMap_cons]
    rw [e, List.length_append, List.length_cons]
    have : (ringT r).length = (bodyT r).length + 1 + 1 := by unfold ringT; rw [List.length_cons, List.length_append] <;> rfl
    omega
theorem ringsK_mem {n : Nat} {a : List Nat} (h : IsP n a) {m : Nat} (hm : m ≤ n) {r : List Nat} (hr : r ∈ ringsK a m) : r.length ≤ n ∧ ∀ x ∈ r, x < n := by
  obtain ⟨k, hk, rfl⟩ := List.mem_map.mp hr
  have hk := List.mem_range.mp (List.mem_filter.mp hk).1
  exact ⟨by rw [ring_len]; exact (per_spec h (by omega)).2.2.2, fun x hx => ring_lt h (by omega) hx⟩
theorem ringsK_ok {n : Nat} {a : List Nat} (h : IsP n a) (h16 : n ≤ 16) {m : Nat} (hm : m ≤ n) : ∀ r ∈ ringsK a m, r.length ≤ 16 ∧ ∀ x ∈ r, x < 100 := fun r hr => by
  obtain ⟨h1, h2⟩ := ringsK_mem h hm hr
  exact ⟨by omega, fun x hx => by have := h2 x hx; omega⟩
theorem textK_len {n : Nat} {a : List Nat} (h : IsP n a) (h16 : n ≤ 16) {m : Nat} (hm : m ≤ n) : (textT (ringsK a m)).length ≤ 800 := by
  have h1 := textT_len (ringsK_ok h h16 hm)
  have := ringsK_len a m
  omega
theorem shownT_len {n : Nat} {a : List Nat} (h : IsP n a) (h16 : n ≤ 16) : (shownT (ringsN a)).length ≤ 800 := by
  unfold shownT
  split
  · decide
  · unfold ringsN; rw [h.len]; exact textK_len h h16 (Nat.le_refl _)
end Shf

/-! shown, the law's written, k07 -/
namespace Shf
open PySem L2
def vW (l : List (List Nat)) : List V := (l.map SX.S).map V.str
theorem vW_snoc (l : List (List Nat)) (w : List Nat) : vW l ++ [.str (SX.S w)] = vW (l ++ [w]) := by
  unfold vW
  rw [List.map_append, List.map_append] <;> rfl
theorem vW_len (l : List (List Nat)) : (vW l).length = l.length := by unfold vW; rw [List.length_map, List.length_map]
theorem str_num {H : Hp} {Q : VK} {x : Nat} (h : x < 100) (q : Q (.str (SX.S (TL.numL x))) H) : rStrI [.int (x : Int)] H Q := by
  refine ⟨(x : Int), rfl, ?_, ?_⟩
  · have : ((x : Int)).natAbs.log2 < 7 := by
      rw [Int.natAbs_natCast]
      rcases Nat.eq_zero_or_pos x with e | e
      · subst e; decide
      · exact (Nat.log2_lt (by omega)).mpr (by omega)
    omega
  · rw [← SX.num_S]at q
    exact q
theorem join_nums {K : PySem.W.Frag} {H : Hp} {Q : VK} {D : Addr} {r : List Nat} (hD : H D = some (.lst (vW (r.map TL.numL)))) (h1 : r.length ≤ 16) (h2 : ∀ x ∈ r, x < 100) (q : Q (.str (SX.S (bodyT r))) H) : rJoin K (.str (SX.S [32])) [.ref D] H Q := by
  refine ⟨SX.S [32], D, (r.map TL.numL).map SX.S, rfl, rfl, .inl (sqL hD), ?_, ?_⟩
  · rw [SX.lens, List.length_map, List.length_map, SX.S_len]
    have := nums_sum h2
    show _ + _ * 1 ≤ _
    omega
  · rw [SX.join_S]
    exact q
theorem add_S {H : Hp} {Q : VK} {a b : List Nat} (h1 : a.length ≤ 40000) (h2 : b.length ≤ 40000) (q : Q (.str (SX.S (a ++ b))) H) : rAddS (.str (SX.S a)) (.str (SX.S b)) H Q := by
  refine ⟨SX.S a, SX.S b, rfl, rfl, ?_, ?_⟩
  · rw [SX.S_len, SX.S_len]; exact zl (by omega)
  · rw [SX.S_cat]; exact q
/-- whole + "(" + body + ")" -/
theorem ring_text (rs : List (List Nat)) (r : List Nat) : textT rs ++ [40] ++ bodyT r ++ [41] = textT (rs ++ [r]) := by
  rw [textT_snoc]
  unfold ringT
  rw [List.append_assoc, List.append_assoc] <;> rfl
def sp_shown (K : PySem.W.Frag) (g : Gd) : Sp := fun vs H Q E => ∃ (p : Addr) (a : List Int), vs = [.ref p] ∧ SqT K H p (vI a) ∧ a.length ≤ 1000 ∧
  (SeatB a = false → E (.ref g.NoSeating) none H) ∧ (∀ n a', a = a'.map (fun (x : Nat) => (x : Int)) → IsP n a' → 1 ≤ n → n ≤ 16 → ∀ H', Same H H' → Q (.str (SX.S (shownT (ringsN a')))) H')
theorem len_shown (K : PySem.W.Frag) (g : Gd) (vs : List V) (H : Hp) (Q : VK) (E : XK) (h : sp_shown K g vs H Q E) : vs.length = 1 := by obtain ⟨_, _, rfl, _⟩ := h; rfl
abbrev N_shown : List Str := ["a", "whole", "ring", "k"]
/-- shown -/
def t_shown (K : PySem.W.Frag) (g : Gd) (E : XK) : TS :=
  (tSeq (tAsg (tC (.str "")) (gName 1))
    (tSeq (tFor (iList K (tCallS (sp_rings K g) (WE (wE E)) (tCons (tVar 0) tNil))) (gName 2) (tAsg (tOp rAddS (tOp rAddS (tOp rAddS (tVar 1) (tC (.str "("))) (tM1 (rJoin K) (tC (.str " ")) (tLc (iTup K (tVar 2)) (gName 3) tYes (tCB rStrI (tCons (tVar 3) tNil)) [3]))) (tC (.str ")"))) (gName 1)))
    (tSeq (tIfS (tTest (tOp rEq (tVar 1) (tC (.str "")))) (tRet (tC (.str "()"))) tNext)
    (tRet (tVar 1)))))
theorem pure_shown {K : PySem.W.Frag} {g : Gd} (vs : List V) (H : Hp) (Q : VK) (E : XK) (h : sp_shown K g vs H Q E) : Rd1 (t_shown K g E) N_shown vs H Q := by
  obtain ⟨p, a, rfl, hp, hla, e1, k⟩ := h
  unfold t_shown
  rw [lit0, litA, litS, litZ, litP]
  walk_at "re"
  walk_at "sq"
  walk_at "re"
  walk_at "sq"
  walk_at "st"
  refine w_ilist ?_
  walk_at "ex"
  refine ⟨p, a, rfl, hp, hla, e1, fun n b eb pb h1 h2 r H1 vs s hr0 hr hLT => ?_⟩
  have k := k n b eb pb h1 h2
  have hok := ringsK_ok pb h2 (Nat.le_refl n)
  have hlenK := textK_len pb h2 (Nat.le_refl n)
  have eN : ringsN b = ringsK b n := by unfold ringsN; rw [pb.len]
  rw [eN] at hLT k
  have hrsl := ringsK_len b n
  generalize ringsK b n = rs at *
  have hpre : ∀ i, (textT (rs.take i)).length ≤ 800 := fun i => by
    have := textT_len (rs := rs.take i) fun x hx => hok x (List.mem_of_mem_take hx)
    have h3 : (rs.take i).length ≤ 16 := by rw [List.length_take]; omega
    omega
  refine ⟨r, rfl, ⟨_, sqL hr⟩, for_list (K := K) (a := r) (xs := vs) (fun i σ H' => (∃ v, σ = [some (.ref p), some (.str (SX.S (textT (rs.take i)))), v, none]) ∧ Same H H' ∧ H' r = some (.lst vs) ∧ LT H' vs rs) ⟨⟨_, rfl⟩, s, hr, hLT⟩ ?_ ?_ ?_⟩
  · rintro i σ H' _ h; exact sqL h.2.2.1
  · rintro i x σ H' hx ⟨⟨v, rfl⟩, sx, hrx, hLx⟩
    obtain ⟨q, ring, rfl, hring, hq⟩ := hLx.get' hx
    obtain ⟨o1, o2⟩ := hok ring (List.mem_of_getElem? hring)
    show tAsg _ _ _ (List.set _ 2 (some (V.ref q))) H'
    walk_at "st"
    walk_at "ex"
    refine add_S (Nat.le_trans (hpre i) (by decide)) (by decide) ?_
    refine w_m1 ?_
    walk_at "ex"
    refine ⟨⟨_, rfl⟩, ?_⟩
    refine w_lc ?_
    walk_at "ex"
    refine ⟨q, rfl, ⟨_, sqT hq⟩, fun D hD => lc_tup (K := K) (a := q) (xs := vN ring) (fun j Hy => Same H' Hy ∧ Hy D = some (.lst (vW ((ring.take j).map TL.numL)))) ?_ ?_ ?_ ?_⟩
    · exact ⟨(Same.refl H').new hD, upd_same⟩
    · rintro j Hy _ ⟨sy, _⟩; exact sqT (sy _ _ hq)
    · rintro j x Hy hxj ⟨sy, hDy⟩
      obtain ⟨m, hm, rfl⟩ := vN_get hxj
      refine ⟨rfl, ?_⟩
      walk_at "ex"
      refine str_num (o2 m (List.mem_of_getElem? hm)) ?_
      refine ⟨_, hDy, ?_, sy.up hD, ?_⟩
      · rw [vW_len, List.length_map, List.length_take]; exact zlt (by omega)
      · rw [upd_same, vW_snoc, take_more hm, List.map_append] <;> rfl
    · rintro Hy ⟨sy, hDy⟩
      rw [vN_len, List.take_length] at hDy
      refine join_nums hDy o1 o2 ?_
      have hb := bodyT_len o2
      have hi := hpre i
      refine add_S (by rw [List.length_append]; show _ + 1 ≤ _; omega) (by omega) ?_
      walk_at "ex"
      refine add_S (by rw [List.length_append, List.length_append]; show _ + 1 + _ ≤ _; omega) (by decide) ?_
      rw [ring_text, ← take_more hring]
      exact ⟨⟨_, rfl⟩, sx.trans sy, sy _ _ hrx, hLx.mono sy⟩
  · rintro σ H' ⟨⟨v, rfl⟩, sx, hrx, hLx⟩
    rw [hLx.len, List.take_length]
    walk_at "sq"
    walk_at "st"
    walk_at "ex"
    refine eq_SL ?_
    walk_at "ex"
    have k := k H' sx
    unfold shownT at k
    refine if_d (fun c => ?_) (fun c => ?_)
    · walk_at "rd"
      rw [if_pos c] at k
      exact k
    · walk_at "rd"
      rw [if_neg c] at k
      exact k
end Shf

/-! k08: the law's reader walked -/
namespace Shf
open PySem L2
theorem ix_prev {K : PySem.W.Frag} {H : Hp} {Q : VK} {p : Addr} {r : List Nat} {k : Nat} (h : SqL K H p (vN r)) (hk : k < r.length) (q : Q (.int ((r.getD ((k + (r.length - 1)) % r.length) 0 : Nat) : Int)) H) : rIxL K (.ref p) (.int ((k : Int) - 1)) H Q := by
  refine ⟨p, vN r, _, _, rfl, rfl, h, ?_, q⟩
  show atI (vN r) _ = _
  unfold atI ixN
  rw [vN_len]
  by_cases c : k = 0
  · subst c
    rw [if_neg (by decide), if_pos (by omega)]
    show (vN r)[(((0 : Nat) : Int) - 1 + (r.length : Int)).toNat]? = _
    rw [show (((0 : Nat) : Int) - 1 + (r.length : Int)).toNat = r.length - 1 by omega, Nat.zero_add, Nat.mod_eq_of_lt (by omega)]
    exact vN_at (getD_at (by omega))
  · rw [if_pos (by omega), if_pos (by omega)]
    show (vN r)[((k : Int) - 1).toNat]? = _
    rw [show ((k : Int) - 1).toNat = k - 1 by omega, show k + (r.length - 1) = (k - 1) + r.length by omega, Nat.add_mod_right, Nat.mod_eq_of_lt (by omega)]
    exact vN_at (getD_at (by omega))
end Shf

/-! a caught exception as an argument -/
namespace Shf
open PySem L2
/-! ### a caught exception is lent to a def -/
/-- the def of one parameter n, called in a suite with the exception that it holds -/
structure CalE (P : Program) (w : World) (K : PySem.W.Frag) (mg : Str → Option Value) (base : Heap) (k : Nat) (x n : Str) (sp : Addr → Addr → Hp → VK → Prop) : Prop where mk' ::
  ex : ∃ f fd, mg x = some (.ref f) ∧ PySem.W.keepIn K (.ref f) = true ∧ Binds K fd [n] [] ∧
    ∀ (A : Around) (outer : List Env) (s : Shared) (H : Hp) (a D : Addr) (oe : Obj) (Q : VK), L2H.RoomH k A → L2H.PinOk outer H s (a, oe) → Zc (.ref D) none oe → (∃ vs, oe.data = .fields vs) →
      Env0 P w K mg base A outer s H → BindsTo s fd ⟨[.ref a], []⟩ [(n, .ref a)] → sp D a H Q → codeAny (model P w) A (.call (.ref f) ⟨[.ref a], []⟩) (CR (L2.CX P w) outer P w H s Q E0) s
theorem CalE.mk {P : Program} {w : World} {K : PySem.W.Frag} {mg : Str → Option Value} {base : Heap} {k : Nat} {x qual n : Str} {st : Stmt} {f : Addr} {fd : FuncData} {N : List Str} {sp : Addr → Addr → Hp → VK → Prop}
    (hm : mg x = some (.ref f)) (hk : PySem.W.keepIn K (.ref f) = true) (hb : Binds K fd [n] []) (F : Fun K x qual st f fd) (S : FnScope N [n] (defScope st))
    (body : ∀ (cdv : Value) (A : Around) (outer : List Env) (s : Shared) (H : Hp) (a D : Addr) (oe : Obj) (Q : VK), Zc (.ref D) none oe → (∃ vs, oe.data = .fields vs) → sp D a H Q →
      ∃ t, PSs (L2H.cxH (L2.CX P w) P w K mg base N qual (defScope st) f cdv A outer s H E0 (a, oe)) (defBody st) t ∧ t { nx := fun _ H' => Q .non H', rt := Q } (L2.start N [.ref a]) H) :
    CalE P w K mg base (k + 1) x n sp := by
  refine ⟨⟨f, fd, hm, hk, hb, fun A outer s H a D oe Q room pin hz hf env bind q => ?_⟩⟩
  obtain ⟨oc, od, kV, doc, pm, an, cdv, ct, osl, rfl, look, code⟩ := F.ex
  have kin : K.In s.heap := env.mod.kin.keeps fun b o z => (env.bs b o z).1
  have free : s.heap.NoLimit := env.mod.nolimit.keeps fun b o z => (env.bs b o z).1
  have kinds : ∀ y ∈ [n].zip [Value.ref a], (defScope st).names.lookup y.1 = some .local ∨ ((defScope st).names.lookup y.1 = some .cell ∧ ((cellsFrom (s.heap.objs.size + 1) (defScope st).names []).lookup y.1).isSome = true) := by
    intro ⟨m, v⟩ hy
    rcases S.par m (List.of_mem_zip hy).1 with z | z
    · exact Or.inl z
    · exact Or.inr ⟨z, PySem.W.cellsFrom_some _ _ _ (Or.inl z)⟩
  apply codeAny_call_function room.depth (kin _ _ look) rfl S.co S.gen rfl
  · exact PySem.W.codeRec_of kin code
  apply bind
  apply wpAny_newFunctionEnv_cells S.kind kinds
  intro env' he s1 x1
  subst he
  refine ⟨free.keeps x1.toInCall.keep, ?_⟩
  apply codeAny_func
  obtain ⟨t, ht, hq⟩ := body cdv A outer s H a D oe Q hz hf q
  have J := L2H.inv_startH (E := E0) (CX := L2.CX P w) (vs := [V.ref a]) S pin env rfl (.cons rfl .nil) x1
  refine wpAny_mono (ht.run [] s1 _ H _ J hq) ?_ fun e s' z => z
  intro fl s' z
  cases fl with
  | ret u => obtain ⟨v, σ', H', J2, rv, q2⟩ := z; exact ⟨v, H', J2.os, J2.bare, J2.base, J2.hok, rv, q2⟩
  | next => obtain ⟨σ', H', J2, q2⟩ := z; exact ⟨V.non, H', J2.os, J2.bare, J2.base, J2.hok, rfl, q2⟩
  | brk => obtain ⟨_, _, _, z⟩ := z; exact False.elim z
  | cont => obtain ⟨_, _, _, z⟩ := z; exact False.elim z
def tLend (cls : Value) (d : Option Addr) (a : Addr) (i : Nat) (sp : Addr → Addr → Hp → VK → Prop) : TE := fun σ H Q => σ[i]? = some (some (.ref a)) ∧ ∃ D, cls = .ref D ∧ d = none ∧ sp D a H Q
theorem pe_lend {X : Cx} {k : Nat} {x n : Str} {sp : Addr → Addr → Hp → VK → Prop} {a : Addr} {oe : Obj} {cls : Value} {d : Option Addr} {pn : List (Addr × Obj)} {i : Nat} {p p2 pos : Pos}
    (c : CalE X.prog X.w X.K X.mg X.base k x n sp) (hr : Room k X.A) (hg : Gl X x) (hz : Zc cls d oe) (hf : ∃ vs, oe.data = .fields vs) (ha : PE (X.suite a ((a, oe) :: pn)) (.Name n p2) (tVar i)) (hdb : (x == ("__debug__" : Str)) = false := by decide)
    (he : starEach [.Name n p2] X.env = (false, eval (.Name n p2) X.env) :: starEach [] X.env := by rfl) (hpl : (backTo pos (starEach [] X.env)).any (·.1) = false := by rfl) :
    PE (X.suite a ((a, oe) :: pn)) (.Call (.Name x p) [.Name n p2] [] pos) (tLend cls d a i sp) := by
  obtain ⟨f, fd, hm, hk, hb, run⟩ := c.ex
  refine ⟨fun pins s σ H Q I h => ?_⟩
  obtain ⟨hs, D, rfl, rfl, q⟩ := h
  apply wpAny_Call_Name_kw
  refine ld_glob (X := X.suite a ((a, oe) :: pn)) I hg hm ?_ hdb
  have args : tCons (tVar i) tNil σ H fun vs H1 => vs = [V.ref a] ∧ H1 = H := ⟨_, hs, rfl, rfl⟩
  refine PySem.W.callWith_K (h₀ := X.base) I.ok.mod.kin hk (thn ((pa_cons ha pa_nil).run pos pins s σ H _ I args) ?_) he hpl
  intro us s1 ⟨vs, H1, I1, r, e1, e2⟩
  subst e1 e2
  refine ⟨I1.kIn, ?_⟩
  cases r with
  | cons r1 r2 =>
    cases r2
    obtain rfl := (show _ = _ from r1)
    have P1 := I1.pin (a, oe) (List.mem_append_left _ List.mem_cons_self)
    have pin : L2H.PinOk X.stack H1 s1 (a, oe) := ⟨P1.1, P1.2.1, fun z => (List.mem_cons.mp (I1.stkSub a z)).elim P1.2.2.1 P1.2.2.2.1, P1.2.2.2.2⟩
    have bd := hb s1 [.ref a] I1.kIn rfl
    refine wpAny_call (codeAny_mono (run (X.suite a ((a, oe) :: pn)).A X.stack s1 H1 a D oe Q ⟨hr.dp, hr.un⟩ pin hz hf I1.env0 bd q) ?_)
    intro r s' z
    cases r with
    | error e => exact passL pins σ H1 s1 e s' I1 z
    | ok fl =>
      cases fl with
      | ret u => exact I1.after z
      | next => exact z.elim
      | brk => exact z.elim
      | cont => exact z.elim
/-- isinstance of the lent exception -/
theorem call_isL {X : Cx} {a D : Addr} {oe : Obj} (hp : (a, oe) ∈ X.pn) (hz : Zc (.ref D) none oe) (hf : ∃ vs, oe.data = .fields vs) : CallR X (.builtin "isinstance") (rIsE2 X.K (.ref D) none a) := by
  intro pins s σ H xs us Q I r h
  obtain ⟨D2, e2, _, C, h⟩ := h
  obtain rfl := Value.ref.inj e2
  obtain ⟨c, cv, b, rfl, hcv, e, q⟩ := h
  cases r with
  | cons rx rr =>
    cases rr with
    | cons rt rr =>
      cases rr
      obtain rfl := (show _ = _ from rx)
      obtain rfl := hcv _ rt
      have there := (I.pin (a, oe) (List.mem_append_left _ hp)).1
      have J : PySem.W.InstAt s.heap a oe D none := by
        obtain ⟨vs, hv⟩ := hf
        obtain ⟨oc, od, data, sl⟩ := oe
        obtain ⟨z1, z2⟩ := hz
        cases z1; cases z2; cases hv
        exact ⟨there, rfl, rfl, trivial⟩
      refine PySem.W.kia_one (PySem.W.handS_kitx_exc C.hg C.hk C.hs C.hd C.ha C.hn C.ht C.hm) I.kIn J e (fun z => nomatch z) ?_
      exact fun tk => ⟨.bl b, H, I.kept (t' := tk) fun _ _ z => z, rfl, q⟩
end Shf

/-! dyed -/
namespace Shf
open PySem L2
theorem w_forz {σ : L2.St} {H : Hp} {D : Ends} {i : Nat} {c : Int} {t : TS} (h1 : -1000000 ≤ c) (h2 : c ≤ 1000000) (Pv : Nat → L2.St → Hp → Prop) (h0 : Pv 0 σ H)
    (hs : ∀ k σ H, k < c.toNat → Pv k σ H → t { D with nx := Pv (k + 1), ct := Pv (k + 1), bk := D.nx } (σ.set i (some (.int (k : Int)))) H) (hd : ∀ σ H, Pv c.toNat σ H → D.nx σ H) :
    ∃ j : Int, [V.int c] = [.int j] ∧ -(2 ^ 62) ≤ j ∧ j < 2 ^ 62 ∧ ∃ W : Nat → Nat → L2.St → Hp → Prop, (∃ m, W 0 m σ H) ∧ ∀ i' m σ H, W i' m σ H →
      ((Itr 0 j.toNat).stop i' H ∧ D.nx σ H) ∨ ((Itr 0 j.toNat).go i' H ∧ ∃ N : L2.St → Hp → Prop, (∀ σ' H', N σ' H' → ∃ m', m' < m ∧ W (i' + 1) m' σ' H') ∧ ∀ x H', (Itr 0 j.toNat).yld i' H x H' → gName i x σ H' fun σ2 H2 => t { D with nx := N, ct := N, bk := D.nx } σ2 H2) := by
  refine ⟨c, rfl, by omega, by omega, ?_⟩
  refine for_range (n := c.toNat) Pv h0 (fun k σ H hk p => ?_) hd
  have := hs k σ H hk p
  rw [← Int.zero_add (k : Int)] at this
  exact this
def sp_many_times (K : PySem.W.Frag) (g : Gd) : Sp := fun vs H Q _ => ∃ z c : Int, vs = [.int z, .int c] ∧ 1 ≤ z ∧ z ≤ 6 ∧ -1000000 ≤ c ∧ c ≤ 1000000 ∧ Q (.int (z ^ c.toNat)) H
theorem len_many_times (K : PySem.W.Frag) (g : Gd) (vs : List V) (H : Hp) (Q : VK) (E : XK) (h : sp_many_times K g vs H Q E) : vs.length = 2 := by obtain ⟨_, _, rfl, _⟩ := h; rfl
abbrev N_many_times : List Str := ["dyes", "count", "whole", "turn"]
/-- many_times -/
def t_many_times (K : PySem.W.Frag) (g : Gd) (E : XK) : TS :=
  (tSeq (tAsg (tC (.int 1)) (gName 2))
    (tSeq (tFor (iRng1 (tCons (tVar 1) tNil)) (gName 3) (tAsg (tOp rMulI (tVar 2) (tVar 0)) (gName 2)))
    (tRet (tVar 2))))
theorem pure_many_times {K : PySem.W.Frag} {g : Gd} (vs : List V) (H : Hp) (Q : VK) (E : XK) (h : sp_many_times K g vs H Q E) : Rd1 (t_many_times K g E) N_many_times vs H Q := by
  obtain ⟨z, c, rfl, h1, h2, h3, h4, k⟩ := h
  unfold t_many_times
  walk_at "rd"
  refine w_forz h3 h4 (fun i σ H' => (∃ v, σ = [some (.int z), some (.int c), some (.int (z ^ i)), v]) ∧ H' = H) ⟨⟨_, by rw [Int.pow_zero]; rfl⟩, rfl⟩ ?_ ?_
  · rintro i σ H' hi ⟨⟨v0, rfl⟩, rfl⟩
    walk_at "rd"
    refine mul_I (.inr ⟨by omega, by omega⟩) ?_
    walk_at "rd"
    refine ⟨⟨some (.int (i : Int)), ?_⟩, rfl⟩
    rw [Int.pow_succ] <;> rfl
  · rintro σ H' ⟨⟨v0, rfl⟩, rfl⟩
    walk_at "rd"
    exact k
/-- the dyeings that a seating leaves as they are -/
def dyeT (n : Nat) (z : Int) (a : List Nat) : Int := z ^ ((n : Int) - oddN (ringsN a)).toNat
def dyeS (n : Nat) (z : Int) (as : List (List Nat)) : Int := as.foldl (fun t a => t + dyeT n z a) 0
theorem dyeS_snoc (n : Nat) (z : Int) (as : List (List Nat)) (a : List Nat) : dyeS n z (as ++ [a]) = dyeS n z as + dyeT n z a := by
  unfold dyeS
  rw [List.foldl_append] <;> rfl
theorem oddN_bd (as : List (List Nat)) (m : Nat) (h : ∀ r ∈ as, r.length ≤ m) : -(as.length : Int) ≤ oddN as ∧ oddN as ≤ (as.length * m : Nat) := by
  have key : ∀ (as : List (List Nat)) (t : Int), (∀ r ∈ as, r.length ≤ m) → t - (as.length : Int) ≤ as.foldl (fun t r => t + (r.length : Int) - 1) t ∧ as.foldl (fun t r => t + (r.length : Int) - 1) t ≤ t + (as.length * m : Nat) := by
    intro as
    induction as with
    | nil => intro t _; exact ⟨by simp, by simp⟩
    | cons r l ih =>
      intro t h
      have i1 := ih (t + (r.length : Int) - 1) fun q hq => h q (List.mem_cons_of_mem _ hq)
      have i2 := h r List.mem_cons_self
      rw [List.foldl_cons, List.length_cons, Nat.add_mul, Nat.one_mul]
      omega
  have := key as 0 h
  unfold oddN
  omega
def sp_dyed (K : PySem.W.Frag) (g : Gd) : Sp := fun vs H Q E => ∃ (R : RA) (B : Bk) (moves : List (List Nat)) (z : Int), vs = [.ref R.r, .int z] ∧ RoomAt g H R B moves ∧ (¬ (1 ≤ z ∧ z ≤ 6) → E (.ref g.NoNumber) none H) ∧
  (1 ≤ z → z ≤ 6 → 2000 < manyB B → E (.ref g.TooWide) none H) ∧ (1 ≤ z → z ≤ 6 → manyB B ≤ 2000 → ∀ H', Same H H' → Q (.int (dyeS B.n z (enumB B) / (manyB B : Int))) H')
theorem len_dyed (K : PySem.W.Frag) (g : Gd) (vs : List V) (H : Hp) (Q : VK) (E : XK) (h : sp_dyed K g vs H Q E) : vs.length = 2 := by obtain ⟨_, _, _, _, rfl, _⟩ := h; rfl
--@facts dyed r_Room r_Book
abbrev N_dyed : List Str := ["room", "dyes", "many", "total", "n", "free", "ring"]
/-- dyed -/
def t_dyed (K : PySem.W.Frag) (g : Gd) (E : XK) : TS :=
  (tSeq (tIfS (tOr (tTest (tOp rLtI (tVar 1) (tC (.int 1)))) (tTest (tOp rGtI (tVar 1) (tC (.int 6))))) (tRaiseW (wE E) g.NoNumber) tNext)
    (tSeq (tAsg (tMethS g.Room "how_many" (sp_Room_how_many K g) (fun _ => E0) (tVar 0) tNil) (gName 2))
    (tSeq (tIfS (tTest (tOp rGtI (tVar 2) (tC (.int 2000)))) (tRaiseW (wE E) g.TooWide) tNext)
    (tSeq (tAsg (tC (.int 0)) (gName 3))
    (tSeq (tFor (iRng1 (tCons (tVar 2) tNil)) (gName 4) (tSeq (tAsg (tFld K (tVar 0) "size") (gName 5))
    (tSeq (tFor (iList K (tCallS (sp_rings K g) (WE (wE E)) (tCons (tMethS g.Room "numbered" (sp_Room_numbered K g) (WE (wE E)) (tVar 0) (tCons (tVar 4) tNil)) tNil))) (gName 6) (tAsg (tOp rAddI (tOp rSubI (tVar 5) (tCB (rLenQ K) (tCons (tVar 6) tNil))) (tC (.int 1))) (gName 5)))
    (tAsg (tOp rAddI (tVar 3) (tCallS (sp_many_times K g) (fun _ => E0) (tCons (tVar 1) (tCons (tVar 5) tNil)))) (gName 3)))))
    (tRet (tOp rDivI (tVar 3) (tVar 2))))))))
theorem pure_dyed {K : PySem.W.Frag} {g : Gd} (cR : RmC K g) (cB : BkC K g) (vs : List V) (H : Hp) (Q : VK) (E : XK) (h : sp_dyed K g vs H Q E) : Rd1 (t_dyed K g E) N_dyed vs H Q := by
  obtain ⟨R, B, moves, z, rfl, hR, e1, e2, k⟩ := h
  have ok := hR.cl.ok
  have n1 := hR.n1
  have n16 := hR.n16
  unfold t_dyed
  walk_at "sq"
  walk_at "st"
  refine w_orP (b := decide (z < 1)) (c := decide (6 < z)) (fun R' r => ?_) (fun R' r => ?_) ?_
  · walk_at "ex"
    exact r
  · walk_at "ex"
    exact r
  refine if_b (fun c => ?_) (fun c => ?_)
  · refine e1 fun zz => ?_
    rw [decide_eq_false (by omega), decide_eq_false (by omega)] at c
    cases c
  have z1 : 1 ≤ z := by
    refine Decidable.byContradiction fun q => ?_
    rw [decide_eq_true (by omega)] at c
    cases c
  have z6 : z ≤ 6 := by
    refine Decidable.byContradiction fun q => ?_
    rw [decide_eq_true (p := 6 < z) (by omega), Bool.or_true] at c
    cases c
  have e2 := e2 z1 z6
  have k := k z1 z6
  walk_at "rd"
  refine hR.inst (by rfl) ?_
  walk_at "rd"
  refine ⟨R, B, moves, rfl, hR, ?_⟩
  walk_at "rd"
  refine if_d (fun c => e2 (by omega)) (fun c => ?_)
  have hm : manyB B ≤ 2000 := by omega
  walk_at "rd"
  refine w_for1 (by omega) (fun i σ H' => (∃ y1 y2 y3, σ = [some (.ref R.r), some (.int z), some (.int (manyB B : Int)), some (.int (dyeS B.n z ((enumB B).take i))), y1, y2, y3]) ∧ Same H H') ⟨⟨_, _, _, rfl⟩, Same.refl H⟩ ?_ ?_
  · rintro i σ H1 hi ⟨⟨y1, y2, y3, rfl⟩, s1⟩
    have hR1 := hR.same s1
    obtain ⟨a, ea, pa, _⟩ := enum_at ok hi
    walk_at "rd"
    refine hR1.f_size cR ?_
    walk_at "rd"
    refine hR1.inst (by rfl) ?_
    walk_at "rd"
    refine numbered_ok hR1 ea fun q H2 s2 hq0 hq => ?_
    walk_at "rd"
    refine ⟨q, _, rfl, sqT (by rw [← vN_eq]; exact hq), by rw [List.length_map, pa.len]; omega, fun c => (by rw [seatB_N pa n1 n16] at c; cases c), fun n' a' ea' pa' n1' n16' r H3 ws s3 hr0 hr hLT => ?_⟩
    obtain rfl := vInj.mp ea'
    have en : n' = B.n := by rw [← pa'.len, pa.len]
    walk_at "rd"
    refine ⟨r, rfl, ⟨_, sqL hr⟩, for_list (K := K) (a := r) (xs := ws) (fun j σ H' => (∃ v, σ = [some (.ref R.r), some (.int z), some (.int (manyB B : Int)), some (.int (dyeS B.n z ((enumB B).take i))), some (.int (i : Int)), some (.int ((B.n : Int) - oddN ((ringsN a).take j))), v]) ∧ H' = H3) ⟨⟨_, by show _ = [_, _, _, _, _, some (V.int ((B.n : Int) - 0)), _]; rw [Int.sub_zero]; rfl⟩, rfl⟩ (fun j σ H' _ z => by rw [z.2]; exact sqL hr) ?_ ?_⟩
    · rintro j v σ H' hj ⟨⟨v0, rfl⟩, rfl⟩
      obtain ⟨q2, x, rfl, hx, hq2⟩ := hLT.get' hj
      refine (?_ : (tAsg _ _) _ _ _)
      walk_at "rd"
      refine len_TN (sqT hq2) ?_
      walk_at "rd"
      refine ⟨⟨some (.ref q2), ?_⟩, rfl⟩
      rw [take_more hx, oddN_snoc, show (B.n : Int) - (oddN ((ringsN a).take j) + (x.length : Int) - 1) = (B.n : Int) - oddN ((ringsN a).take j) - (x.length : Int) + 1 by omega] <;> rfl
    · rintro σ H' ⟨⟨v0, rfl⟩, rfl⟩
      rw [hLT.len, List.take_length]
      walk_at "rd"
      have b := oddN_bd (ringsN a) B.n fun x hx => by
        obtain ⟨m, hm, rfl⟩ := List.mem_map.mp hx
        have hm := (List.mem_filter.mp hm).1
        rw [List.mem_range, pa.len] at hm
        rw [ring_len]
        exact (per_spec pa hm).2.2.2
      have bl : (ringsN a).length ≤ B.n := by
        have := ringsK_len a a.length
        rw [pa.len] at this
        unfold ringsN
        rw [pa.len]
        exact this
      have bm : (ringsN a).length * B.n ≤ 16 * 16 := Nat.mul_le_mul (by omega) n16
      refine ⟨z, _, rfl, z1, z6, ?_, ?_, ?_⟩
      · omega
      · omega
      · walk_at "rd"
        refine ⟨⟨some (.int (i : Int)), some (.int ((B.n : Int) - oddN (ringsN a))), v0, ?_⟩, (s1.trans s2).trans s3⟩
        rw [take_more ea, dyeS_snoc] <;> rfl
  · rintro σ H1 ⟨⟨y1, y2, y3, rfl⟩, s1⟩
    rw [← enumB_len ok, List.take_length]
    walk_at "rd"
    have hm0 : 0 < manyB B := by rw [many_eq ok.rl]; exact belowK_pos ok.pre _ _ (by omega)
    rw [enumB_len ok]
    refine div_I (by omega) (by omega) ?_
    walk_at "rd"
    exact k hm _ s1
end Shf

/-! k21: each refusal -/
namespace Shf
open PySem L2
/-- one place changed: no seating -/
theorem bad_set {n i : Nat} (hi : i < n) {z : Int} (hz : z < 0 ∨ (n : Int) ≤ z ∨ ∃ j : Nat, j < n ∧ j ≠ i ∧ z = (j : Int)) : SeatB (((List.range n).map fun (x : Nat) => (x : Int)).set i z) = false := by
  refine Bool.eq_false_iff.mpr fun c => ?_
  obtain ⟨b, pb, eb, _, _⟩ := seatB_is c
  rw [List.length_set, List.length_map, List.length_range] at pb
  have at1 : (b.getD i 0 : Int) = z := by
    have e1 : (((List.range n).map fun (x : Nat) => (x : Int)).set i z)[i]? = some z := List.getElem?_set_self (by rw [List.length_map, List.length_range]; exact hi)
    rw [eb, List.getElem?_map, getD_at (by rw [pb.len]; exact hi)] at e1
    exact Option.some.inj e1
  have lt1 := pb.getD_lt hi
  rcases hz with z1 | z1 | ⟨j, hj, hji, z1⟩
  · omega
  · omega
  · have e2 : (((List.range n).map fun (x : Nat) => (x : Int)).set i z)[j]? = some (j : Int) := by
      rw [List.getElem?_set_ne (Ne.symm hji), List.getElem?_map, List.getElem?_range hj] <;> rfl
    rw [eb, List.getElem?_map, getD_at (by rw [pb.len]; exact hj)] at e2
    have e2 : (b.getD j 0 : Int) = (j : Int) := Option.some.inj e2
    exact hji (nd_getD pb.nd (by rw [pb.len]; exact hj) (by rw [pb.len]; exact hi) (by omega))
def sp_L_bad_k21 (K : PySem.W.Frag) (g : Gd) : Sp := fun vs H Q _ => ∃ c : Int, vs = [.int c] ∧ ∀ (r : Addr) (H' : Hp) (a : List Int), Same H H' → H' r = some (.tup (vI a)) → SeatB a = false → a.length ≤ 1000 → Q (.ref r) H'
theorem len_L_bad_k21 (K : PySem.W.Frag) (g : Gd) (vs : List V) (H : Hp) (Q : VK) (E : XK) (h : sp_L_bad_k21 K g vs H Q E) : vs.length = 1 := by obtain ⟨_, rfl, _⟩ := h; rfl
abbrev N_L_bad_k21 : List Str := ["cell", "size", "row", "at"]
/-- _law_bad -/
def t_L_bad_k21 (K : PySem.W.Frag) (g : Gd) (E : XK) : TS :=
  (tSeq (tIfS (tTest (tOp rEq (tOp rModI (tVar 0) (tC (.int 4))) (tC (.int 0)))) (tRet (tTup tNil)) tNext)
    (tSeq (tIfS (tTest (tOp rEq (tOp rModI (tVar 0) (tC (.int 4))) (tC (.int 1)))) (tRet (tTupRg (tRg1 (tOp rAddI (tC (.int 17)) (tOp rModI (tOp rDivI (tVar 0) (tC (.int 4))) (tC (.int 2))))))) tNext)
    (tSeq (tAsg (tOp rAddI (tC (.int 2)) (tOp rModI (tOp rDivI (tVar 0) (tC (.int 16))) (tC (.int 15)))) (gName 1))
    (tSeq (tAsg (tLstRg (tRg1 (tVar 1))) (gName 2))
    (tSeq (tAsg (tOp rModI (tOp rDivI (tVar 0) (tC (.int 240))) (tVar 1)) (gName 3))
    (tSeq (tAsg (tOp (rIxL K) (tLst (tCons (tVar 1) (tCons (tUn (rU fun i => .int (-i)) (tC (.int 1))) (tCons (tOp (rIxL K) (tVar 2) (tOp rSubI (tVar 3) (tC (.int 1)))) (tCons (tOp rPowI (tC (.int 10)) (tC (.int 30))) tNil))))) (tOp rModI (tOp rDivI (tVar 0) (tC (.int 4))) (tC (.int 4)))) (gSub (tVar 2) (tVar 3) rSetL))
    (tRet (tCB (rTupOf K) (tCons (tVar 2) tNil)))))))))
theorem pure_L_bad_k21 {K : PySem.W.Frag} {g : Gd} (vs : List V) (H : Hp) (Q : VK) (E : XK) (h : sp_L_bad_k21 K g vs H Q E) : Rd1 (t_L_bad_k21 K g E) N_L_bad_k21 vs H Q := by
  obtain ⟨c, rfl, k⟩ := h
  unfold t_L_bad_k21
  walk_at "rd"
  refine mod_I (by decide) ?_
  walk_at "rd"
  refine if_d (fun c1 => ?_) (fun c1 => ?_)
  · walk_at "rd"
    refine ⟨zl (by show 0 ≤ 100000; decide), fun r hr => ?_⟩
    walk_at "rd"
    exact k r _ [] ((Same.refl H).new hr) upd_same (by decide) (by decide)
  walk_at "rd"
  refine mod_I (by decide) ?_
  walk_at "rd"
  refine if_d (fun c2 => ?_) (fun c2 => ?_)
  · walk_at "rd"
    refine div_I (by decide) (by decide) ?_
    walk_at "rd"
    refine mod_I (by decide) ?_
    walk_at "rd"
    obtain ⟨m, em, m1, m2⟩ : ∃ m : Nat, 17 + c / 4 % 2 = (m : Int) ∧ 17 ≤ m ∧ m ≤ 18 := ⟨(17 + c / 4 % 2).toNat, by omega, by omega, by omega⟩
    rw [em]
    refine ⟨rgOk_N (by omega), fun p hp => ?_⟩
    rw [rgV_N, vN_eq]
    walk_at "rd"
    exact k p _ _ ((Same.refl H).new hp) upd_same (seatB_no fun z => (by rw [List.length_map, List.length_range] at z; omega)) (by rw [List.length_map, List.length_range]; omega)
  walk_at "rd"
  refine div_I (by decide) (by decide) ?_
  walk_at "rd"
  refine mod_I (by decide) ?_
  walk_at "rd"
  obtain ⟨n, en, n2, n16⟩ : ∃ n : Nat, 2 + c / 16 % 15 = (n : Int) ∧ 2 ≤ n ∧ n ≤ 16 := ⟨(2 + c / 16 % 15).toNat, by omega, by omega, by omega⟩
  rw [en]
  refine ⟨rgOk_N (by omega), fun p hp => ?_⟩
  rw [rgV_N]
  have s1 := (Same.refl H).new (o := .lst (vN (List.range n))) hp
  walk_at "rd"
  refine div_I (by decide) (by decide) ?_
  walk_at "rd"
  refine mod_I (by omega) ?_
  walk_at "rd"
  obtain ⟨i, ei, hi⟩ : ∃ i : Nat, c / 240 % (n : Int) = (i : Int) ∧ i < n := by
    have z1 := Int.emod_nonneg (c / 240) (show (n : Int) ≠ 0 by omega)
    have z2 := Int.emod_lt_of_pos (c / 240) (show (0 : Int) < (n : Int) by omega)
    exact ⟨(c / 240 % (n : Int)).toNat, by omega, by omega⟩
  rw [ei]
  have rl : (List.range n).length = n := List.length_range
  refine ix_prev (sqL upd_same) (by rw [rl]; exact hi) ?_
  rw [rl]
  have hj : (i + (n - 1)) % n < n := Nat.mod_lt _ (by omega)
  have hji : (i + (n - 1)) % n ≠ i := by
    by_cases c0 : i = 0
    · rw [c0, Nat.zero_add, Nat.mod_eq_of_lt (by omega)]; omega
    · rw [show i + (n - 1) = (i - 1) + n by omega, Nat.add_mod_right, Nat.mod_eq_of_lt (by omega)]; omega
  rw [show (List.range n).getD ((i + (n - 1)) % n) 0 = (i + (n - 1)) % n by rw [List.getD_eq_getElem?_getD, List.getElem?_range hj] <;> rfl]
  generalize (i + (n - 1)) % n = j at *
  walk_at "rd"
  refine pow_10 (n := 30) (by omega) ?_
  walk_at "rd"
  refine ⟨zl (by show 4 ≤ 100000; decide), fun p2 hp2 => ?_⟩
  walk_at "rd"
  refine div_I (by decide) (by decide) ?_
  walk_at "rd"
  refine mod_I (by decide) ?_
  obtain ⟨w, ew, hw⟩ : ∃ w : Nat, c / 4 % 4 = (w : Int) ∧ w < 4 := ⟨(c / 4 % 4).toNat, by omega, by omega⟩
  rw [ew]
  have fin : ∀ z : Int, (z < 0 ∨ (n : Int) ≤ z ∨ ∃ j : Nat, j < n ∧ j ≠ i ∧ z = (j : Int)) → [V.int (n : Int), V.int (-1), V.int (j : Int), V.int (10 ^ 30)][w]? = some (V.int z) → True := fun _ _ _ => trivial
  obtain ⟨z, hz, hwz⟩ : ∃ z : Int, (z < 0 ∨ (n : Int) ≤ z ∨ ∃ j : Nat, j < n ∧ j ≠ i ∧ z = (j : Int)) ∧ [V.int (n : Int), V.int (-1), V.int (j : Int), V.int (10 ^ 30)][w]? = some (V.int z) := by
    match w, hw with
    | 0, _ => exact ⟨_, .inr (.inl (Int.le_refl _)), rfl⟩
    | 1, _ => exact ⟨_, .inl (by decide), rfl⟩
    | 2, _ => exact ⟨_, .inr (.inr ⟨j, hj, hji, rfl⟩), rfl⟩
    | 3, _ => exact ⟨_, .inr (.inl (by omega)), rfl⟩
  refine ix_L (i := w) (sqL upd_same) hwz rfl ?_
  have hp3 : (upd (upd H p (.lst (vN (List.range n)))) p2 (.lst [V.int (n : Int), V.int (-1), V.int (j : Int), V.int (10 ^ 30)])) p = some (.lst (vI ((List.range n).map fun (x : Nat) => (x : Int)))) := by
    rw [upd_ne (ne_of_none upd_same hp2), upd_same, vN_eq]
  walk_at "rd"
  refine set_I (i := i) hp3 (by rw [List.length_map, rl]; exact hi) rfl ?_
  walk_at "rd"
  refine tup_L (sqL upd_same) fun r hr => ?_
  exact k r _ _ (((s1.new hp2).up hp).new hr) upd_same (bad_set hi hz) (by rw [List.length_set, List.length_map, rl]; omega)
def sp_L_no_size (K : PySem.W.Frag) (g : Gd) : Sp := fun vs H Q E => ∃ c f : Int, vs = [.int c, .int f] ∧ 0 ≤ f ∧ ∀ H', E (.ref g.NoSize) none H'
theorem len_L_no_size (K : PySem.W.Frag) (g : Gd) (vs : List V) (H : Hp) (Q : VK) (E : XK) (h : sp_L_no_size K g vs H Q E) : vs.length = 2 := by obtain ⟨_, _, rfl, _⟩ := h; rfl
abbrev N_L_no_size : List Str := ["cell", "far", "size", "way"]
/-- _law_no_size -/
def t_L_no_size (K : PySem.W.Frag) (g : Gd) (E : XK) : TS :=
  (tSeq (tAsg (tOp (rIxL K) (tLst (tCons (tC (.int 0)) (tCons (tC (.int 17)) (tCons (tOp rSubI (tUn (rU fun i => .int (-i)) (tC (.int 1))) (tVar 1)) (tCons (tOp rAddI (tC (.int 17)) (tVar 1)) tNil))))) (tOp rModI (tVar 0) (tC (.int 4)))) (gName 2))
    (tSeq (tAsg (tOp rModI (tOp rDivI (tVar 0) (tC (.int 4))) (tC (.int 3))) (gName 3))
    (tIfS (tTest (tOp rEq (tVar 3) (tC (.int 0)))) (tDrop (tMakeS g.Room (sp_Room_init K g) (WE (wE E)) (tCons (tVar 2) tNil))) (tIfS (tTest (tOp rEq (tVar 3) (tC (.int 1)))) (tDrop (tCallS (sp_rest K g) (WE (wE E)) (tCons (tVar 2) tNil))) (tDrop (tCallS (sp_read K g) (WE (wE E)) (tCons (tC (.str "()")) (tCons (tVar 2) tNil))))))))
theorem pure_L_no_size {K : PySem.W.Frag} {g : Gd} (vs : List V) (H : Hp) (Q : VK) (E : XK) (h : sp_L_no_size K g vs H Q E) : Rd1 (t_L_no_size K g E) N_L_no_size vs H Q := by
  obtain ⟨c, f, rfl, h0, k⟩ := h
  unfold t_L_no_size
  walk_at "rd"
  refine ⟨zl (by show 4 ≤ 100000; decide), fun p hp => ?_⟩
  walk_at "rd"
  refine mod_I (by decide) ?_
  obtain ⟨w, ew, hw⟩ : ∃ w : Nat, c % 4 = (w : Int) ∧ w < 4 := ⟨(c % 4).toNat, by omega, by omega⟩
  rw [ew]
  obtain ⟨z, hz, hwz⟩ : ∃ z : Int, (¬ (1 ≤ z ∧ z ≤ 16)) ∧ [V.int 0, V.int 17, V.int (-1 - f), V.int (17 + f)][w]? = some (V.int z) := by
    match w, hw with
    | 0, _ => exact ⟨_, by decide, rfl⟩
    | 1, _ => exact ⟨_, by decide, rfl⟩
    | 2, _ => exact ⟨_, by omega, rfl⟩
    | 3, _ => exact ⟨_, by omega, rfl⟩
  refine ix_L (i := w) (sqL upd_same) hwz rfl ?_
  walk_at "rd"
  refine div_I (by decide) (by decide) ?_
  walk_at "rd"
  refine mod_I (by decide) ?_
  walk_at "rd"
  refine if_d (fun _ => ?_) (fun _ => ?_)
  · walk_at "rd"
    refine fun x dx hx hdx hne => ⟨x, dx, z, rfl, upd_same, fun _ => k _, fun m em m1 m2 => absurd (by omega) hz⟩
  walk_at "rd"
  refine if_d (fun _ => ?_) (fun _ => ?_)
  · walk_at "rd"
    exact ⟨z, rfl, fun c => absurd c hz, fun _ => k _⟩
  walk_at "rd"
  exact ⟨[40, 41], z, rfl, by decide, fun _ => k _, fun n en n1 n2 => absurd (by omega) hz⟩
def sp_L_no_seating (K : PySem.W.Frag) (g : Gd) : Sp := fun vs H Q E => ∃ (R : RA) (B : Bk) (ms : List (List Nat)) (p : Addr) (a : List Int) (w : Int), vs = [.ref R.r, .ref p, .int w] ∧ RoomAt g H R B ms ∧ H p = some (.tup (vI a)) ∧ SeatB a = false ∧ a.length ≤ 1000 ∧ ms.length < 200 ∧
  ∀ H', E (.ref g.NoSeating) none H'
theorem len_L_no_seating (K : PySem.W.Frag) (g : Gd) (vs : List V) (H : Hp) (Q : VK) (E : XK) (h : sp_L_no_seating K g vs H Q E) : vs.length = 3 := by obtain ⟨_, _, _, _, _, _, rfl, _⟩ := h; rfl
--@facts _law_no_seating r_Room
abbrev N_L_no_seating : List Str := ["room", "bad", "way"]
/-- _law_no_seating -/
def t_L_no_seating (K : PySem.W.Frag) (g : Gd) (E : XK) : TS :=
  (tIfS (tTest (tOp rEq (tVar 2) (tC (.int 0)))) (tDrop (tCallS (sp_rings K g) (WE (wE E)) (tCons (tVar 1) tNil))) (tIfS (tTest (tOp rEq (tVar 2) (tC (.int 1)))) (tDrop (tCallS (sp_age K g) (WE (wE E)) (tCons (tVar 1) tNil))) (tIfS (tTest (tOp rEq (tVar 2) (tC (.int 2)))) (tDrop (tCallS (sp_even K g) (WE (wE E)) (tCons (tVar 1) tNil))) (tIfS (tTest (tOp rEq (tVar 2) (tC (.int 3)))) (tDrop (tCallS (sp_times K g) (WE (wE E)) (tCons (tVar 1) (tCons (tC (.int 0)) tNil)))) (tIfS (tTest (tOp rEq (tVar 2) (tC (.int 4)))) (tDrop (tCallS (sp_shown K g) (WE (wE E)) (tCons (tVar 1) tNil))) (tIfS (tTest (tOp rEq (tVar 2) (tC (.int 5)))) (tDrop (tCallS (sp_back K g) (WE (wE E)) (tCons (tVar 1) tNil))) (tIfS (tTest (tOp rEq (tVar 2) (tC (.int 6)))) (tDrop (tMethS g.Room "reaches" (sp_Room_reaches K g) (WE (wE E)) (tVar 0) (tCons (tVar 1) tNil))) (tIfS (tTest (tOp rEq (tVar 2) (tC (.int 7)))) (tDrop (tMethS g.Room "recipe" (sp_Room_recipe K g) (WE (wE E)) (tVar 0) (tCons (tVar 1) tNil))) (tIfS (tTest (tOp rEq (tVar 2) (tC (.int 8)))) (tDrop (tMethS g.Room "number_of" (sp_Room_number_of K g) (WE (wE E)) (tVar 0) (tCons (tVar 1) tNil))) (tIfS (tTest (tOp rEq (tVar 2) (tC (.int 9)))) (tDrop (tMethS g.Room "put_move" (sp_Room_put_move K g) (WE (wE E)) (tVar 0) (tCons (tVar 1) tNil))) (tDrop (tCallS (sp_then K g) (WE (wE E)) (tCons (tCallS (sp_rest K g) (WE (wE E)) (tCons (tFld K (tVar 0) "size") tNil)) (tCons (tVar 1) tNil))))))))))))))
theorem pure_L_no_seating {K : PySem.W.Frag} {g : Gd} (cR : RmC K g) (vs : List V) (H : Hp) (Q : VK) (E : XK) (h : sp_L_no_seating K g vs H Q E) : Rd1 (t_L_no_seating K g E) N_L_no_seating vs H Q := by
  obtain ⟨R, B, ms, p, a, w, rfl, hR, hp, hb, hl, hm, k⟩ := h
  have n1 := hR.n1
  have n16 := hR.n16
  have no : ∀ {n : Nat} {a' : List Nat} {X : Prop}, a = a'.map (fun (x : Nat) => (x : Int)) → IsP n a' → 1 ≤ n → n ≤ 16 → X := fun e pa h1 h2 => by
    rw [e, seatB_N pa h1 h2] at hb
    cases hb
  have nob : ∀ {X : Prop}, SeatB a = true → X := fun c => by rw [hb] at c; cases c
  unfold t_L_no_seating
  walk_at "rd"
  refine if_d (fun _ => ?_) (fun _ => ?_)
  · walk_at "rd"
    exact ⟨p, a, rfl, sqT hp, hl, fun _ => k _, fun n a' e pa h1 h2 => no e pa h1 h2⟩
  walk_at "rd"
  refine if_d (fun _ => ?_) (fun _ => ?_)
  · walk_at "rd"
    exact ⟨p, a, rfl, sqT hp, hl, fun _ => k _, fun n a' e pa h1 h2 => no e pa h1 h2⟩
  walk_at "rd"
  refine if_d (fun _ => ?_) (fun _ => ?_)
  · walk_at "rd"
    exact ⟨p, a, rfl, sqT hp, hl, fun _ => k _, fun n a' e pa h1 h2 => no e pa h1 h2⟩
  walk_at "rd"
  refine if_d (fun _ => ?_) (fun _ => ?_)
  · walk_at "rd"
    exact ⟨p, a, 0, rfl, sqT hp, hl, fun _ => k _, fun n a' e pa h1 h2 => no e pa h1 h2⟩
  walk_at "rd"
  refine if_d (fun _ => ?_) (fun _ => ?_)
  · walk_at "rd"
    exact ⟨p, a, rfl, sqT hp, hl, fun _ => k _, fun n a' e pa h1 h2 => no e pa h1 h2⟩
  walk_at "rd"
  refine if_d (fun _ => ?_) (fun _ => ?_)
  · walk_at "rd"
    exact ⟨p, a, rfl, sqT hp, hl, fun _ => k _, fun n a' e pa h1 h2 => no e pa h1 h2⟩
  walk_at "rd"
  refine if_d (fun _ => ?_) (fun _ => ?_)
  · walk_at "rd"
    refine hR.inst (by rfl) ?_
    walk_at "rd"
    exact ⟨R, B, ms, p, a, rfl, hR, hp, hl, fun _ => k _, fun c => nob c, fun m e pa => no e pa n1 n16⟩
  walk_at "rd"
  refine if_d (fun _ => ?_) (fun _ => ?_)
  · walk_at "rd"
    refine hR.inst (by rfl) ?_
    walk_at "rd"
    exact ⟨R, B, ms, p, a, rfl, hR, hp, hl, by omega, fun _ => k _, fun c => nob c, fun m e pa => no e pa n1 n16⟩
  walk_at "rd"
  refine if_d (fun _ => ?_) (fun _ => ?_)
  · walk_at "rd"
    refine hR.inst (by rfl) ?_
    walk_at "rd"
    exact ⟨R, B, ms, p, a, rfl, hR, hp, hl, fun _ => k _, fun c => nob c, fun m e pa => no e pa n1 n16⟩
  walk_at "rd"
  refine if_d (fun _ => ?_) (fun _ => ?_)
  · walk_at "rd"
    refine hR.inst (by rfl) ?_
    walk_at "rd"
    exact ⟨R, B, ms, p, a, rfl, hR, hp, hl, by omega, fun _ => k _, fun c => nob c, fun c => nob c, fun m e pa => no e pa n1 n16⟩
  walk_at "rd"
  refine hR.f_size cR ?_
  walk_at "rd"
  refine ⟨_, rfl, fun _ q H1 s1 hq0 hq => ?_, fun c => absurd (by omega) c⟩
  rw [Int.toNat_natCast, vN_eq] at hq
  walk_at "rd"
  exact ⟨q, p, _, a, rfl, sqT hq, sqT (s1 _ _ hp), by rw [List.length_map, List.length_range]; omega, hl, fun _ => k _, fun _ c => nob c, fun n a' b' _ e _ pb h1 h2 => no e pb h1 h2⟩
def sp_L_other_size (K : PySem.W.Frag) (g : Gd) : Sp := fun vs H Q E => ∃ (R : RA) (B : Bk) (ms : List (List Nat)) (p : Addr) (b : List Nat) (n : Nat) (w : Int), vs = [.ref R.r, .ref p, .int w] ∧ RoomAt g H R B ms ∧ H p = some (.tup (vN b)) ∧ IsP n b ∧ 1 ≤ n ∧ n ≤ 16 ∧ n ≠ B.n ∧ ms.length < 200 ∧
  ∀ H', E (.ref g.OtherSize) none H'
theorem len_L_other_size (K : PySem.W.Frag) (g : Gd) (vs : List V) (H : Hp) (Q : VK) (E : XK) (h : sp_L_other_size K g vs H Q E) : vs.length = 3 := by obtain ⟨_, _, _, _, _, _, _, rfl, _⟩ := h; rfl
--@facts _law_other_size r_Room
abbrev N_L_other_size : List Str := ["room", "other", "way"]
/-- _law_other_size -/
def t_L_other_size (K : PySem.W.Frag) (g : Gd) (E : XK) : TS :=
  (tIfS (tTest (tOp rEq (tVar 2) (tC (.int 0)))) (tDrop (tMethS g.Room "reaches" (sp_Room_reaches K g) (WE (wE E)) (tVar 0) (tCons (tVar 1) tNil))) (tIfS (tTest (tOp rEq (tVar 2) (tC (.int 1)))) (tDrop (tMethS g.Room "recipe" (sp_Room_recipe K g) (WE (wE E)) (tVar 0) (tCons (tVar 1) tNil))) (tIfS (tTest (tOp rEq (tVar 2) (tC (.int 2)))) (tDrop (tMethS g.Room "number_of" (sp_Room_number_of K g) (WE (wE E)) (tVar 0) (tCons (tVar 1) tNil))) (tIfS (tTest (tOp rEq (tVar 2) (tC (.int 3)))) (tDrop (tMethS g.Room "put_move" (sp_Room_put_move K g) (WE (wE E)) (tVar 0) (tCons (tVar 1) tNil))) (tIfS (tTest (tOp rEq (tVar 2) (tC (.int 4)))) (tDrop (tCallS (sp_then K g) (WE (wE E)) (tCons (tCallS (sp_rest K g) (WE (wE E)) (tCons (tFld K (tVar 0) "size") tNil)) (tCons (tVar 1) tNil)))) (tDrop (tCallS (sp_within K g) (WE (wE E)) (tCons (tVar 0) (tCons (tMakeS g.Room (sp_Room_init K g) (WE (wE E)) (tCons (tCB (rLenQ K) (tCons (tVar 1) tNil)) tNil)) tNil)))))))))
theorem pure_L_other_size {K : PySem.W.Frag} {g : Gd} (cR : RmC K g) (vs : List V) (H : Hp) (Q : VK) (E : XK) (h : sp_L_other_size K g vs H Q E) : Rd1 (t_L_other_size K g E) N_L_other_size vs H Q := by
  obtain ⟨R, B, ms, p, b, n, w, rfl, hR, hp0, pb, m1, m16, hne, hm, k⟩ := h
  have n1 := hR.n1
  have n16 := hR.n16
  have hp := hp0
  rw [vN_eq] at hp
  have sb : SeatB (b.map fun (x : Nat) => (x : Int)) = true := seatB_N pb m1 m16
  have hlb : (b.map fun (x : Nat) => (x : Int)).length = n := by rw [List.length_map, pb.len]
  have hl : (b.map fun (x : Nat) => (x : Int)).length ≤ 1000 := by omega
  have no : ∀ {m : List Nat} {X : Prop}, (b.map fun (x : Nat) => (x : Int)) = m.map (fun (x : Nat) => (x : Int)) → IsP B.n m → X := fun {m} {X} e pa => by
    rw [vInj] at e
    have := pa.len
    rw [← e, pb.len] at this
    exact absurd this hne
  have nob : ∀ {X : Prop}, SeatB (b.map fun (x : Nat) => (x : Int)) = false → X := fun c => by rw [sb] at c; cases c
  unfold t_L_other_size
  walk_at "rd"
  refine if_d (fun _ => ?_) (fun _ => ?_)
  · walk_at "rd"
    refine hR.inst (by rfl) ?_
    walk_at "rd"
    exact ⟨R, B, ms, p, _, rfl, hR, hp, hl, fun c => nob c, fun _ _ => k _, fun m e pa => no e pa⟩
  walk_at "rd"
  refine if_d (fun _ => ?_) (fun _ => ?_)
  · walk_at "rd"
    refine hR.inst (by rfl) ?_
    walk_at "rd"
    exact ⟨R, B, ms, p, _, rfl, hR, hp, hl, by omega, fun c => nob c, fun _ _ => k _, fun m e pa => no e pa⟩
  walk_at "rd"
  refine if_d (fun _ => ?_) (fun _ => ?_)
  · walk_at "rd"
    refine hR.inst (by rfl) ?_
    walk_at "rd"
    exact ⟨R, B, ms, p, _, rfl, hR, hp, hl, fun c => nob c, fun _ _ => k _, fun m e pa => no e pa⟩
  walk_at "rd"
  refine if_d (fun _ => ?_) (fun _ => ?_)
  · walk_at "rd"
    refine hR.inst (by rfl) ?_
    walk_at "rd"
    exact ⟨R, B, ms, p, _, rfl, hR, hp, hl, by omega, fun c => nob c, fun _ _ => k _, fun _ c => absurd (hlb.symm.trans c) hne, fun m e pa => no e pa⟩
  walk_at "rd"
  refine if_d (fun _ => ?_) (fun _ => ?_)
  · walk_at "rd"
    refine hR.f_size cR ?_
    walk_at "rd"
    refine ⟨_, rfl, fun _ q H1 s1 hq0 hq => ?_, fun c => absurd (by omega) c⟩
    rw [Int.toNat_natCast, vN_eq] at hq
    walk_at "rd"
    refine ⟨q, p, _, _, rfl, sqT hq, sqT (s1 _ _ hp), by rw [List.length_map, List.length_range]; omega, hl, fun c => ?_, fun _ _ _ => k _, fun n' a' b' e1 e2 p1 p2 _ _ => ?_⟩
    · rcases c with c | c
      · rw [seatB_N (isP_id B.n) n1 n16] at c; cases c
      · exact nob c
    · rw [vInj] at e1 e2
      have l1 := p1.len
      have l2 := p2.len
      rw [← e1, List.length_range] at l1
      rw [← e2, pb.len] at l2
      exact absurd (l2.trans l1.symm) hne
  walk_at "rd"
  refine len_TN (sqT hp0) ?_
  rw [pb.len]
  walk_at "rd"
  refine make_room m1 m16 fun R2 H2 s2 hR2 _ => ?_
  walk_at "rd"
  exact ⟨R, R2, B, Bk.new n, ms, [], rfl, hR.same s2, hR2, fun _ => k _, fun c => absurd c.symm hne⟩
def sp_L_no_seat (K : PySem.W.Frag) (g : Gd) : Sp := fun vs H Q E => ∃ (R : RA) (B : Bk) (ms : List (List Nat)) (z w : Int), vs = [.ref R.r, .int z, .int w] ∧ RoomAt g H R B ms ∧ ¬ (0 ≤ z ∧ z < (B.n : Int)) ∧ ∀ H', E (.ref g.NoSeat) none H'
theorem len_L_no_seat (K : PySem.W.Frag) (g : Gd) (vs : List V) (H : Hp) (Q : VK) (E : XK) (h : sp_L_no_seat K g vs H Q E) : vs.length = 3 := by obtain ⟨_, _, _, _, _, rfl, _⟩ := h; rfl
abbrev N_L_no_seat : List Str := ["room", "seat", "way"]
/-- _law_no_seat -/
def t_L_no_seat (K : PySem.W.Frag) (g : Gd) (E : XK) : TS :=
  (tIfS (tTest (tOp rEq (tVar 2) (tC (.int 0)))) (tDrop (tCallS (sp_ring_of K g) (WE (wE E)) (tCons (tVar 0) (tCons (tVar 1) tNil)))) (tIfS (tTest (tOp rEq (tVar 2) (tC (.int 1)))) (tDrop (tCallS (sp_parting K g) (WE (wE E)) (tCons (tVar 0) (tCons (tVar 1) (tCons (tC (.int 0)) tNil))))) (tIfS (tTest (tOp rEq (tVar 2) (tC (.int 2)))) (tDrop (tCallS (sp_parting K g) (WE (wE E)) (tCons (tVar 0) (tCons (tC (.int 0)) (tCons (tVar 1) tNil))))) (tDrop (tCallS (sp_holding K g) (WE (wE E)) (tCons (tVar 0) (tCons (tLst (tCons (tC (.int 0)) (tCons (tVar 1) tNil))) tNil)))))))
theorem pure_L_no_seat {K : PySem.W.Frag} {g : Gd} (vs : List V) (H : Hp) (Q : VK) (E : XK) (h : sp_L_no_seat K g vs H Q E) : Rd1 (t_L_no_seat K g E) N_L_no_seat vs H Q := by
  obtain ⟨R, B, ms, z, w, rfl, hR, hz, k⟩ := h
  have n1 := hR.n1
  unfold t_L_no_seat
  walk_at "rd"
  refine if_d (fun _ => ?_) (fun _ => ?_)
  · walk_at "rd"
    exact ⟨R, B, ms, z, rfl, hR, fun _ => k _, fun x ex hx => absurd (by omega) hz⟩
  walk_at "rd"
  refine if_d (fun _ => ?_) (fun _ => ?_)
  · walk_at "rd"
    exact ⟨R, B, ms, z, 0, rfl, hR, fun _ => k _, fun c => absurd c hz, fun x y ex _ hx => absurd (by omega) hz⟩
  walk_at "rd"
  refine if_d (fun _ => ?_) (fun _ => ?_)
  · walk_at "rd"
    exact ⟨R, B, ms, 0, z, rfl, hR, fun c => absurd (by omega) c, fun _ _ => k _, fun x y _ ey _ hy => absurd (by omega) hz⟩
  walk_at "rd"
  refine ⟨zl (by show 2 ≤ 100000; decide), fun l hl => ?_⟩
  walk_at "rd"
  refine ⟨R, B, ms, l, [0, z], rfl, hR.same ((Same.refl H).new hl), sqL upd_same, by show 2 < 60; decide, fun _ => k _, fun ss es hs => ?_⟩
  have : z ∈ ss.map (fun (x : Nat) => (x : Int)) := by rw [← es]; exact List.mem_cons_of_mem _ List.mem_cons_self
  obtain ⟨x, hx, ex⟩ := List.mem_map.mp this
  have := hs x hx
  exact absurd (by omega) hz
def sp_L_full_k21 (K : PySem.W.Frag) (g : Gd) : Sp := fun vs H Q E => ∃ n : Nat, vs = [.int (n : Int)] ∧ 1 ≤ n ∧ n ≤ 16 ∧ ∀ H', E (.ref g.TooMany) none H'
theorem len_L_full_k21 (K : PySem.W.Frag) (g : Gd) (vs : List V) (H : Hp) (Q : VK) (E : XK) (h : sp_L_full_k21 K g vs H Q E) : vs.length = 1 := by obtain ⟨_, rfl, _⟩ := h; rfl
abbrev N_L_full_k21 : List Str := ["size", "room", "k"]
/-- _law_full -/
def t_L_full_k21 (K : PySem.W.Frag) (g : Gd) (E : XK) : TS :=
  (tSeq (tAsg (tMakeS g.Room (sp_Room_init K g) (WE (wE E)) (tCons (tVar 0) tNil)) (gName 1))
    (tSeq (tFor (iRng1 (tCons (tC (.int 200)) tNil)) (gName 2) (tDrop (tMethS g.Room "put_move" (sp_Room_put_move K g) (WE (wE E)) (tVar 1) (tCons (tCallS (sp_rest K g) (WE (wE E)) (tCons (tVar 0) tNil)) tNil))))
    (tDrop (tMethS g.Room "put_move" (sp_Room_put_move K g) (WE (wE E)) (tVar 1) (tCons (tCallS (sp_rest K g) (WE (wE E)) (tCons (tVar 0) tNil)) tNil)))))
theorem pure_L_full_k21 {K : PySem.W.Frag} {g : Gd} (vs : List V) (H : Hp) (Q : VK) (E : XK) (h : sp_L_full_k21 K g vs H Q E) : Rd1 (t_L_full_k21 K g E) N_L_full_k21 vs H Q := by
  obtain ⟨n, rfl, h1, h2, k⟩ := h
  unfold t_L_full_k21
  walk_at "rd"
  refine make_room h1 h2 fun R H1 s1 hR fr => ?_
  walk_at "rd"
  refine w_for1 (n := 200) (by omega) (fun i σ H' => ∃ (B : Bk) (ms : List (List Nat)) (y : Option V), σ = [some (.int (n : Int)), some (.ref R.r), y] ∧ RoomAt g H' R B ms ∧ B.n = n ∧ ms.length = i) ?_ ?_ ?_
  · exact ⟨_, [], _, rfl, hR, rfl, rfl⟩
  · rintro i σ H2 hi ⟨B, ms, y, rfl, hR2, eB, hms⟩
    walk_at "rd"
    refine hR2.inst (by rfl) ?_
    walk_at "rd"
    refine ⟨_, rfl, fun _ q H3 s3 hq0 hq => ?_, fun c => absurd (by omega) c⟩
    rw [Int.toNat_natCast] at hq
    walk_at "rd"
    refine put_ok (hR2.same s3) hq (by rw [eB]; exact isP_id n) (by omega) fun H4 B' hR4 b4 eB' _ => ?_
    walk_at "rd"
    exact ⟨B', _, _, rfl, hR4, by omega, by rw [List.length_append, hms] <;> rfl⟩
  · rintro σ H2 ⟨B, ms, y, rfl, hR2, eB, hms⟩
    subst eB
    walk_at "rd"
    refine hR2.inst (by rfl) ?_
    walk_at "rd"
    refine ⟨_, rfl, fun _ q H3 s3 hq0 hq => ?_, fun c => absurd (by omega) c⟩
    rw [Int.toNat_natCast, vN_eq] at hq
    walk_at "rd"
    refine ⟨R, B, ms, q, _, rfl, hR2.same s3, hq, by rw [List.length_map, List.length_range]; omega, by omega, fun c => ?_, fun _ c => ?_, fun _ _ _ => k _, fun m _ _ c => absurd c (by omega)⟩
    · rw [seatB_N (isP_id B.n) h1 h2] at c; cases c
    · rw [List.length_map, List.length_range] at c; exact absurd rfl c
def sp_L_unreached (K : PySem.W.Frag) (g : Gd) : Sp := fun vs H Q E => ∃ (n : Nat) (w : Int), vs = [.int (n : Int), .int w] ∧ 1 ≤ n ∧ n ≤ 15 ∧ ∀ H', E (.ref g.Unreached) none H'
theorem len_L_unreached (K : PySem.W.Frag) (g : Gd) (vs : List V) (H : Hp) (Q : VK) (E : XK) (h : sp_L_unreached K g vs H Q E) : vs.length = 2 := by obtain ⟨_, _, rfl, _⟩ := h; rfl
theorem gen_nil {n : Nat} {a : List Nat} (h : Gen n [] a) : a = List.range n := by
  induction h with
  | one => rfl
  | mul _ hm _ => cases hm
theorem one_arg {K : PySem.W.Frag} {H : Hp} {Q : VK} {σ : L2.St} {n : Nat} (hσ : σ[0]? = some (some (.int (n : Int)))) (h1 : 1 ≤ n) (hn : n ≤ 1000) (k : ∀ p H', Same H H' → H' p = some (.tup (vN (adj (n + 1) 0))) → Q (.ref p) H') :
    (tCB (rTupOf K) (tCons (tOp rCat (tLst (tCons (tC (.int 1)) (tCons (tC (.int 0)) tNil))) (tLstRg (tRg2 (tC (.int 2)) (tOp rAddI (tVar 0) (tC (.int 1)))))) tNil)) σ H Q := by
  walk_at "rd"
  refine ⟨zl (by show 2 ≤ 100000; decide), fun p1 hp1 => ?_⟩
  walk_at "rd"
  refine w_rgB ?_
  refine w_c ?_
  walk_at "ex"
  refine w_var hσ ?_
  walk_at "ex"
  rw [show (n : Int) + 1 = ((n + 1 : Nat) : Int) by omega]
  refine ⟨((2 : Nat) : Int), ((n + 1 : Nat) : Int), rfl, rfl, .of_le (by omega) (by omega) (by omega) (by omega), fun p2 hp2 => ?_⟩
  rw [rgV_N2]
  refine cat_N (a := [1, 0]) (by rw [upd_ne (ne_of_none upd_same hp2)]; exact upd_same) upd_same (by rw [mr_len]; show 2 + (n + 1 - 2) ≤ 100000; omega) fun p3 hp3 => ?_
  rw [adj0_eq (by omega)]
  walk_at "rd"
  refine tup_L (sqL upd_same) fun p4 hp4 => ?_
  exact k p4 _ (((((Same.refl H).new hp1).new hp2).new hp3).new hp4) upd_same
abbrev N_L_unreached : List Str := ["size", "way", "room", "one"]
/-- _law_unreached -/
def t_L_unreached (K : PySem.W.Frag) (g : Gd) (E : XK) : TS :=
  (tSeq (tAsg (tMakeS g.Room (sp_Room_init K g) (WE (wE E)) (tCons (tOp rAddI (tVar 0) (tC (.int 1))) tNil)) (gName 2))
    (tSeq (tAsg (tCB (rTupOf K) (tCons (tOp rCat (tLst (tCons (tC (.int 1)) (tCons (tC (.int 0)) tNil))) (tLstRg (tRg2 (tC (.int 2)) (tOp rAddI (tVar 0) (tC (.int 1)))))) tNil)) (gName 3))
    (tIfS (tTest (tOp rEq (tVar 1) (tC (.int 0)))) (tDrop (tMethS g.Room "recipe" (sp_Room_recipe K g) (WE (wE E)) (tVar 2) (tCons (tVar 3) tNil))) (tDrop (tMethS g.Room "number_of" (sp_Room_number_of K g) (WE (wE E)) (tVar 2) (tCons (tVar 3) tNil))))))
theorem pure_L_unreached {K : PySem.W.Frag} {g : Gd} (vs : List V) (H : Hp) (Q : VK) (E : XK) (h : sp_L_unreached K g vs H Q E) : Rd1 (t_L_unreached K g E) N_L_unreached vs H Q := by
  obtain ⟨n, w, rfl, h1, h2, k⟩ := h
  unfold t_L_unreached
  walk_at "rd"
  rw [show (n : Int) + 1 = ((n + 1 : Nat) : Int) by omega]
  refine make_room (by omega) (by omega) fun R H1 s1 hR fr => ?_
  walk_at "re"
  walk_at "sq"
  walk_at "st"
  refine one_arg rfl h1 (by omega) fun p4 H4 s4 hq => ?_
  have hR4 := hR.same s4
  rw [vN_eq] at hq
  have pa : IsP (n + 1) (adj (n + 1) 0) := isP_adj (by omega)
  have sb := seatB_N pa (by omega) (by omega)
  have hl : ((adj (n + 1) 0).map fun (x : Nat) => (x : Int)).length = n + 1 := by rw [List.length_map, pa.len]
  have ns : ¬ Sifts (Bk.new (n + 1)) (adj (n + 1) 0) := fun c => by
    have e := gen_nil ((sifts_gen hR.cl (by simp) pa).mp c)
    have : (adj (n + 1) 0).getD 0 0 = (List.range (n + 1)).getD 0 0 := by rw [e] <;> rfl
    rw [← adj0_eq (by omega)] at this
    revert this
    show (1 : Nat) = _ → False
    rw [List.getD_eq_getElem?_getD, List.getElem?_range (by omega)]
    intro z
    cases z
  walk_at "rd"
  refine if_d (fun _ => ?_) (fun _ => ?_)
  · walk_at "rd"
    refine hR4.inst (by rfl) ?_
    walk_at "rd"
    refine ⟨R, _, [], p4, _, rfl, hR4, hq, by omega, by decide, fun c => (by rw [sb] at c; cases c), fun _ c => absurd hl c, fun m em pm => ⟨fun _ H' _ => k _, fun c => ?_⟩⟩
    rw [vInj] at em
    rw [← em] at c
    exact absurd c ns
  · walk_at "rd"
    refine hR4.inst (by rfl) ?_
    walk_at "rd"
    refine ⟨R, _, [], p4, _, rfl, hR4, hq, by omega, fun c => (by rw [sb] at c; cases c), fun _ c => absurd hl c, fun m em pm => ⟨fun _ H' _ => k _, fun t ht => ?_⟩⟩
    rw [vInj] at em
    rw [← em] at ht
    have ok := hR.cl.ok
    exact absurd ((sifts_sk ok pa).mpr ((enumB_mem ok _).mp (List.mem_of_getElem? ht))) ns
end Shf

/-! k21: its end -/
namespace Shf
open PySem L2
theorem many_all {B : Bk} {moves : List (List Nat)} (C : Closed B moves) (hm : ∀ m ∈ moves, IsP B.n m) (h : ∀ a, IsP B.n a → Gen B.n moves a) : manyB B = fct B.n := by
  rw [← permsF_len B.n (List.range B.n) List.length_range]
  refine many_gen C hm ((permsF_lex _ _ List.length_range (range_lt _)).imp fun h e => ?_) fun a => ⟨fun ha => h a (permsF_perm _ _ a List.length_range ha), fun g => permsF_mem _ _ a (Gen.isP hm g).len (Gen.isP hm g)⟩
  rw [e] at h
  exact LexLt.irrefl h
theorem many_none {n : Nat} (C : Closed (Bk.new n) []) : manyB (Bk.new n) = 1 := by
  refine many_gen C (fun m hm => by cases hm) (l := [List.range n]) (by simp) fun a => ?_
  rw [List.mem_singleton]
  exact ⟨fun e => by rw [e]; exact .one, fun h => gen_nil h⟩
def sp_L_wide_k21 (K : PySem.W.Frag) (g : Gd) : Sp := fun vs H Q E => vs = [] ∧ ∀ H', E (.ref g.TooWide) none H'
theorem len_L_wide_k21 (K : PySem.W.Frag) (g : Gd) (vs : List V) (H : Hp) (Q : VK) (E : XK) (h : sp_L_wide_k21 K g vs H Q E) : vs.length = 0 := by obtain ⟨rfl, _⟩ := h; rfl
abbrev N_L_wide_k21 : List Str := ["room"]
/-- _law_wide -/
def t_L_wide_k21 (K : PySem.W.Frag) (g : Gd) (E : XK) : TS :=
  (tSeq (tAsg (tMakeS g.Room (sp_Room_init K g) (WE (wE E)) (tCons (tC (.int 7)) tNil)) (gName 0))
    (tSeq (tDrop (tMethS g.Room "put_move" (sp_Room_put_move K g) (WE (wE E)) (tVar 0) (tCons (tTup (tCons (tC (.int 1)) (tCons (tC (.int 0)) (tCons (tC (.int 2)) (tCons (tC (.int 3)) (tCons (tC (.int 4)) (tCons (tC (.int 5)) (tCons (tC (.int 6)) tNil)))))))) tNil)))
    (tSeq (tDrop (tMethS g.Room "put_move" (sp_Room_put_move K g) (WE (wE E)) (tVar 0) (tCons (tTup (tCons (tC (.int 1)) (tCons (tC (.int 2)) (tCons (tC (.int 3)) (tCons (tC (.int 4)) (tCons (tC (.int 5)) (tCons (tC (.int 6)) (tCons (tC (.int 0)) tNil)))))))) tNil)))
    (tDrop (tCallS (sp_dyed K g) (WE (wE E)) (tCons (tVar 0) (tCons (tC (.int 2)) tNil)))))))
theorem pure_L_wide_k21 {K : PySem.W.Frag} {g : Gd} (vs : List V) (H : Hp) (Q : VK) (E : XK) (h : sp_L_wide_k21 K g vs H Q E) : Rd1 (t_L_wide_k21 K g E) N_L_wide_k21 vs H Q := by
  obtain ⟨rfl, k⟩ := h
  unfold t_L_wide_k21
  walk_at "rd"
  refine make_room (n := 7) (by decide) (by decide) fun R H1 s1 hR fr => ?_
  walk_at "rd"
  refine hR.inst (by rfl) ?_
  walk_at "rd"
  refine ⟨zl (by show 7 ≤ 100000; decide), fun p hp => ?_⟩
  walk_at "rd"
  refine put_ok (a := [1, 0, 2, 3, 4, 5, 6]) (hR.same ((Same.refl H1).new hp)) upd_same (by show IsP 7 _; unfold IsP; decide) (by decide) fun H2 B2 hR2 b2 e2 _ => ?_
  walk_at "rd"
  refine hR2.inst (by rfl) ?_
  walk_at "rd"
  have e2 : B2.n = 7 := e2
  refine ⟨zl (by show 7 ≤ 100000; decide), fun p2 hp2 => ?_⟩
  walk_at "rd"
  refine put_ok (a := [1, 2, 3, 4, 5, 6, 0]) (hR2.same ((Same.refl H2).new hp2)) upd_same (by rw [e2]; unfold IsP; decide) (by decide) fun H3 B3 hR3 b3 e3 _ => ?_
  have e3 : B3.n = 7 := e3.trans e2
  walk_at "rd"
  have all : ∀ a, IsP B3.n a → Gen B3.n ([] ++ [[1, 0, 2, 3, 4, 5, 6]] ++ [[1, 2, 3, 4, 5, 6, 0]]) a := by
    have mp := hR3.mp
    rw [e3] at mp ⊢
    exact gen_swcyc mp (by rw [show cyc 7 = [1, 2, 3, 4, 5, 6, 0] by decide]; simp) (by rw [show adj 7 0 = [1, 0, 2, 3, 4, 5, 6] by decide]; simp)
  have hm := many_all hR3.cl hR3.mp all
  rw [e3, show fct 7 = 5040 by rfl] at hm
  exact ⟨R, B3, _, 2, rfl, hR3, fun c => absurd (by decide) c, fun _ _ _ => k _, fun _ _ c => absurd c (by omega)⟩
def clsN (g : Gd) : Nat → Addr
  | 0 => g.NoSize
  | 1 => g.NoSeating
  | 2 => g.OtherSize
  | 3 => g.NoSeat
  | 4 => g.NoNumber
  | 5 => g.TooMany
  | 6 => g.Unreached
  | 7 => g.TooWide
  | _ => g.NotRead
def sp_L_done (K : PySem.W.Frag) (g : Gd) : Sp := fun vs H Q E => ∃ (w n : Nat) (c f : Int), vs = [.int (w : Int), .int (n : Int), .int c, .int f] ∧ w < 9 ∧ 1 ≤ n ∧ n ≤ 16 ∧ 0 ≤ f ∧ ∀ H', E (.ref (clsN g w)) none H'
theorem len_L_done (K : PySem.W.Frag) (g : Gd) (vs : List V) (H : Hp) (Q : VK) (E : XK) (h : sp_L_done K g vs H Q E) : vs.length = 4 := by obtain ⟨_, _, _, _, rfl, _⟩ := h; rfl
theorem lit_1 : ("" : Str) = SX.S [] := by rfl
theorem lit_2 : ("(0" : Str) = SX.S [40, 48] := by rfl
theorem lit_3 : ("(0 0)" : Str) = SX.S [40, 48, 32, 48, 41] := by rfl
theorem lit_4 : ("0 1" : Str) = SX.S [48, 32, 49] := by rfl
theorem lit_5 : ("(0 17)" : Str) = SX.S [40, 48, 32, 49, 55, 41] := by rfl
def badT : Nat → List Nat
  | 0 => []
  | 1 => [40, 48]
  | 2 => [40, 48, 32, 48, 41]
  | 3 => [48, 32, 49]
  | _ => [40, 48, 32, 49, 55, 41]
theorem badT_no : ∀ n, 1 ≤ n → n ≤ 16 → ∀ w, w < 5 → readP n (badT w) = none := by
  have : ∀ n, n < 17 → 1 ≤ n → ∀ w, w < 5 → readP n (badT w) = none := by decide +kernel
  exact fun n h1 h2 => this n (by omega) h1
abbrev N_L_done : List Str := ["way", "size", "cell", "far", "room"]
/-- _law_done -/
def t_L_done (K : PySem.W.Frag) (g : Gd) (E : XK) : TS :=
  (tSeq (tAsg (tMakeS g.Room (sp_Room_init K g) (WE (wE E)) (tCons (tVar 1) tNil)) (gName 4))
    (tIfS (tTest (tOp rEq (tVar 0) (tC (.int 0)))) (tDrop (tCallS (sp_L_no_size K g) (WE (wE E)) (tCons (tVar 2) (tCons (tVar 3) tNil)))) (tIfS (tTest (tOp rEq (tVar 0) (tC (.int 1)))) (tDrop (tCallS (sp_L_no_seating K g) (WE (wE E)) (tCons (tVar 4) (tCons (tCallS (sp_L_bad_k21 K g) (fun _ => E0) (tCons (tVar 3) tNil)) (tCons (tOp rModI (tVar 2) (tC (.int 11))) tNil))))) (tIfS (tTest (tOp rEq (tVar 0) (tC (.int 2)))) (tDrop (tCallS (sp_L_other_size K g) (WE (wE E)) (tCons (tVar 4) (tCons (tCallS (sp_L_far K g) (fun _ => E0) (tCons (tVar 3) (tCons (tOp rAddI (tC (.int 1)) (tOp rModI (tOp rAddI (tVar 1) (tOp rModI (tOp rDivI (tVar 2) (tC (.int 6))) (tC (.int 15)))) (tC (.int 16)))) tNil))) (tCons (tOp rModI (tVar 2) (tC (.int 6))) tNil))))) (tIfS (tTest (tOp rEq (tVar 0) (tC (.int 3)))) (tDrop (tCallS (sp_L_no_seat K g) (WE (wE E)) (tCons (tVar 4) (tCons (tOp (rIxL K) (tLst (tCons (tOp rSubI (tUn (rU fun i => .int (-i)) (tC (.int 1))) (tVar 3)) (tCons (tVar 1) (tCons (tOp rAddI (tVar 1) (tVar 3)) tNil)))) (tOp rModI (tOp rDivI (tVar 2) (tC (.int 4))) (tC (.int 3)))) (tCons (tOp rModI (tVar 2) (tC (.int 4))) tNil))))) (tIfS (tAnd (tTest (tOp rEq (tVar 0) (tC (.int 4)))) (tTest (tOp rEq (tOp rModI (tVar 2) (tC (.int 2))) (tC (.int 0))))) (tDrop (tMethS g.Room "numbered" (sp_Room_numbered K g) (WE (wE E)) (tVar 4) (tCons (tOp (rIxL K) (tLst (tCons (tOp rSubI (tUn (rU fun i => .int (-i)) (tC (.int 1))) (tVar 3)) (tCons (tC (.int 1)) (tCons (tOp rAddI (tC (.int 1)) (tVar 3)) tNil)))) (tOp rModI (tOp rDivI (tVar 2) (tC (.int 2))) (tC (.int 3)))) tNil))) (tIfS (tTest (tOp rEq (tVar 0) (tC (.int 4)))) (tDrop (tCallS (sp_dyed K g) (WE (wE E)) (tCons (tVar 4) (tCons (tOp (rIxL K) (tLst (tCons (tUn (rU fun i => .int (-i)) (tVar 3)) (tCons (tC (.int 0)) (tCons (tC (.int 7)) (tCons (tOp rAddI (tC (.int 7)) (tVar 3)) tNil))))) (tOp rModI (tOp rDivI (tVar 2) (tC (.int 2))) (tC (.int 4)))) tNil)))) (tIfS (tTest (tOp rEq (tVar 0) (tC (.int 5)))) (tDrop (tCallS (sp_L_full_k21 K g) (WE (wE E)) (tCons (tVar 1) tNil))) (tIfS (tTest (tOp rEq (tVar 0) (tC (.int 6)))) (tDrop (tCallS (sp_L_unreached K g) (WE (wE E)) (tCons (tOp rAddI (tC (.int 1)) (tOp rModI (tVar 1) (tC (.int 15)))) (tCons (tOp rModI (tVar 2) (tC (.int 2))) tNil)))) (tIfS (tTest (tOp rEq (tVar 0) (tC (.int 7)))) (tDrop (tCallS (sp_L_wide_k21 K g) (WE (wE E)) tNil)) (tDrop (tCallS (sp_read K g) (WE (wE E)) (tCons (tOp (rIxL K) (tLst (tCons (tC (.str "")) (tCons (tC (.str "(0")) (tCons (tC (.str "(0 0)")) (tCons (tC (.str "0 1")) (tCons (tC (.str "(0 17)")) tNil)))))) (tOp rModI (tVar 2) (tC (.int 5)))) (tCons (tVar 1) tNil))))))))))))))
theorem pure_L_done {K : PySem.W.Frag} {g : Gd} (vs : List V) (H : Hp) (Q : VK) (E : XK) (h : sp_L_done K g vs H Q E) : Rd1 (t_L_done K g E) N_L_done vs H Q := by
  obtain ⟨w, n, c, f, rfl, hw, h1, h16, hf, k⟩ := h
  unfold t_L_done
  walk_at "rd"
  refine make_room h1 h16 fun R H1 s1 hR _ => ?_
  have nk : ∀ {j : Nat} {C : Addr}, w = j → clsN g j = C → ∀ H', E (.ref C) none H' := fun e1 e2 H' => by rw [← e2, ← e1]; exact k H'
  walk_at "rd"
  refine if_d (fun e => ?_) (fun ne0 => ?_)
  · walk_at "rd"
    exact ⟨c, f, rfl, hf, nk (j := 0) (by omega) rfl⟩
  walk_at "rd"
  refine if_d (fun e => ?_) (fun ne1 => ?_)
  · walk_at "rd"
    refine ⟨f, rfl, fun p H2 a s2 hp hb hl => ?_⟩
    walk_at "rd"
    refine mod_I (by decide) ?_
    walk_at "rd"
    exact ⟨R, _, [], p, a, _, rfl, hR.same s2, hp, hb, hl, by decide, nk (j := 1) (by omega) rfl⟩
  walk_at "rd"
  refine if_d (fun e => ?_) (fun ne2 => ?_)
  · walk_at "rd"
    refine div_I (by decide) (by decide) ?_
    walk_at "rd"
    refine mod_I (by decide) ?_
    walk_at "rd"
    refine mod_I (by decide) ?_
    walk_at "rd"
    have x1 := Int.emod_nonneg (c / 6) (show (15 : Int) ≠ 0 by decide)
    have x2 := Int.emod_lt_of_pos (c / 6) (show (0 : Int) < 15 by decide)
    generalize c / 6 % 15 = x at *
    obtain ⟨m, em, m1, m2, mn⟩ : ∃ m : Nat, 1 + ((n : Int) + x) % 16 = (m : Int) ∧ 1 ≤ m ∧ m ≤ 16 ∧ m ≠ n := ⟨(1 + ((n : Int) + x) % 16).toNat, by omega, by omega, by omega, by omega⟩
    rw [em]
    refine ⟨f, m, rfl, by omega, fun p H2 s2 _ hp => ?_⟩
    walk_at "rd"
    refine mod_I (by decide) ?_
    walk_at "rd"
    exact ⟨R, _, [], p, _, m, _, rfl, hR.same s2, hp, isP_far _ _, m1, m2, mn, by decide, nk (j := 2) (by omega) rfl⟩
  walk_at "rd"
  refine if_d (fun e => ?_) (fun ne3 => ?_)
  · walk_at "rd"
    refine ⟨zl (by show 3 ≤ 100000; decide), fun p hp => ?_⟩
    walk_at "rd"
    refine div_I (by decide) (by decide) ?_
    walk_at "rd"
    refine mod_I (by decide) ?_
    obtain ⟨i, ei, hi⟩ : ∃ i : Nat, c / 4 % 3 = (i : Int) ∧ i < 3 := ⟨(c / 4 % 3).toNat, by omega, by omega⟩
    rw [ei]
    obtain ⟨z, hz, hiz⟩ : ∃ z : Int, (¬ (0 ≤ z ∧ z < (n : Int))) ∧ [V.int (-1 - f), V.int (n : Int), V.int ((n : Int) + f)][i]? = some (V.int z) := by
      match i, hi with
      | 0, _ => exact ⟨_, by omega, rfl⟩
      | 1, _ => exact ⟨_, by omega, rfl⟩
      | 2, _ => exact ⟨_, by omega, rfl⟩
    refine ix_L (i := i) (sqL upd_same) hiz rfl ?_
    walk_at "rd"
    refine mod_I (by decide) ?_
    walk_at "rd"
    exact ⟨R, _, [], z, _, rfl, hR.same ((Same.refl H1).new hp), hz, nk (j := 3) (by omega) rfl⟩
  have many := many_none hR.cl
  have dy : ∀ {Q2 : VK} {E2 : XK}, w = 4 → (∀ cls d H', E cls d H' → E2 cls d H') → True := fun _ _ => trivial
  walk_at "rd"
  refine if_d (fun e => ?_) (fun ne4 => ?_)
  · walk_at "ex"
    refine mod_I (by decide) ?_
    walk_at "ex"
    refine if_d (fun e5 => ?_) (fun e5 => ?_)
    · walk_at "rd"
      refine hR.inst (by rfl) ?_
      walk_at "rd"
      refine ⟨zl (by show 3 ≤ 100000; decide), fun p hp => ?_⟩
      walk_at "rd"
      refine div_I (by decide) (by decide) ?_
      walk_at "rd"
      refine mod_I (by decide) ?_
      obtain ⟨i, ei, hi⟩ : ∃ i : Nat, c / 2 % 3 = (i : Int) ∧ i < 3 := ⟨(c / 2 % 3).toNat, by omega, by omega⟩
      rw [ei]
      obtain ⟨z, hz, hiz⟩ : ∃ z : Int, (z < 0 ∨ 1 ≤ z) ∧ [V.int (-1 - f), V.int 1, V.int (1 + f)][i]? = some (V.int z) := by
        match i, hi with
        | 0, _ => exact ⟨_, by omega, rfl⟩
        | 1, _ => exact ⟨_, by omega, rfl⟩
        | 2, _ => exact ⟨_, by omega, rfl⟩
      refine ix_L (i := i) (sqL upd_same) hiz rfl ?_
      walk_at "rd"
      refine ⟨R, _, [], z, rfl, hR.same ((Same.refl H1).new hp), fun _ => nk (j := 4) (by omega) rfl _, fun t a et ha => ?_⟩
      have := (List.getElem?_eq_some_iff.mp ha).1
      rw [enumB_len hR.cl.ok, many] at this
      omega
    · walk_at "rd"
      refine if_t (decide_eq_true e) ?_
      walk_at "rd"
      refine ⟨zl (by show 4 ≤ 100000; decide), fun p hp => ?_⟩
      walk_at "rd"
      refine div_I (by decide) (by decide) ?_
      walk_at "rd"
      refine mod_I (by decide) ?_
      obtain ⟨i, ei, hi⟩ : ∃ i : Nat, c / 2 % 4 = (i : Int) ∧ i < 4 := ⟨(c / 2 % 4).toNat, by omega, by omega⟩
      rw [ei]
      obtain ⟨z, hz, hiz⟩ : ∃ z : Int, ¬ (1 ≤ z ∧ z ≤ 6) ∧ [V.int (-f), V.int 0, V.int 7, V.int (7 + f)][i]? = some (V.int z) := by
        match i, hi with
        | 0, _ => exact ⟨_, by omega, rfl⟩
        | 1, _ => exact ⟨_, by omega, rfl⟩
        | 2, _ => exact ⟨_, by omega, rfl⟩
        | 3, _ => exact ⟨_, by omega, rfl⟩
      refine ix_L (i := i) (sqL upd_same) hiz rfl ?_
      walk_at "rd"
      exact ⟨R, _, [], z, rfl, hR.same ((Same.refl H1).new hp), fun _ => nk (j := 4) (by omega) rfl _, fun z1 z6 => absurd ⟨z1, z6⟩ hz, fun z1 z6 => absurd ⟨z1, z6⟩ hz⟩
  walk_at "rd"
  refine if_f (decide_eq_false ne4) ?_
  walk_at "rd"
  refine if_d (fun e => ?_) (fun ne5 => ?_)
  · walk_at "rd"
    exact ⟨n, rfl, h1, h16, nk (j := 5) (by omega) rfl⟩
  walk_at "rd"
  refine if_d (fun e => ?_) (fun ne6 => ?_)
  · walk_at "rd"
    refine mod_I (by decide) ?_
    walk_at "rd"
    refine mod_I (by decide) ?_
    walk_at "rd"
    obtain ⟨m, em, m1, m2⟩ : ∃ m : Nat, 1 + (n : Int) % 15 = (m : Int) ∧ 1 ≤ m ∧ m ≤ 15 := ⟨(1 + (n : Int) % 15).toNat, by omega, by omega, by omega⟩
    rw [em]
    exact ⟨m, _, rfl, m1, m2, nk (j := 6) (by omega) rfl⟩
  walk_at "rd"
  refine if_d (fun e => ?_) (fun ne7 => ?_)
  · walk_at "rd"
    exact ⟨rfl, nk (j := 7) (by omega) rfl⟩
  walk_at "rd"
  refine ⟨zl (by show 5 ≤ 100000; decide), fun p hp => ?_⟩
  walk_at "rd"
  refine mod_I (by decide) ?_
  obtain ⟨i, ei, hi⟩ : ∃ i : Nat, c % 5 = (i : Int) ∧ i < 5 := ⟨(c % 5).toNat, by omega, by omega⟩
  rw [ei]
  have hit : [V.str "", V.str "(0", V.str "(0 0)", V.str "0 1", V.str "(0 17)"][i]? = some (V.str (SX.S (badT i))) := by
    match i, hi with
    | 0, _ => rw [← lit_1.trans (show SX.S [] = SX.S (badT 0) from rfl)] <;> rfl
    | 1, _ => rw [← lit_2.trans (show _ = SX.S (badT 1) from rfl)] <;> rfl
    | 2, _ => rw [← lit_3.trans (show _ = SX.S (badT 2) from rfl)] <;> rfl
    | 3, _ => rw [← lit_4.trans (show _ = SX.S (badT 3) from rfl)] <;> rfl
    | 4, _ => rw [← lit_5.trans (show _ = SX.S (badT 4) from rfl)] <;> rfl
  refine ix_L (i := i) (sqL upd_same) hit rfl ?_
  walk_at "rd"
  have hl : (badT i).length ≤ 10000 := by
    match i, hi with
    | 0, _ => decide
    | 1, _ => decide
    | 2, _ => decide
    | 3, _ => decide
    | 4, _ => decide
  refine ⟨badT i, _, rfl, hl, fun c => absurd (by omega) c, fun m em m1 m2 => ⟨fun _ H' _ => nk (j := 8) (by omega) rfl _, fun row e => ?_⟩⟩
  rw [badT_no m m1 m2 i hi] at e
  cases e
/-- which of the nine a class is -/
structure WhC (K : PySem.W.Frag) (g : Gd) (D : Addr) (w : Nat) : Prop where
  x : ExcC K D
  k0 : PySem.W.kitOne K (.ref D) (.ref g.NoSize) = some (decide (0 = w))
  k1 : PySem.W.kitOne K (.ref D) (.ref g.NoSeating) = some (decide (1 = w))
  k2 : PySem.W.kitOne K (.ref D) (.ref g.OtherSize) = some (decide (2 = w))
  k3 : PySem.W.kitOne K (.ref D) (.ref g.NoSeat) = some (decide (3 = w))
  k4 : PySem.W.kitOne K (.ref D) (.ref g.NoNumber) = some (decide (4 = w))
  k5 : PySem.W.kitOne K (.ref D) (.ref g.TooMany) = some (decide (5 = w))
  k6 : PySem.W.kitOne K (.ref D) (.ref g.Unreached) = some (decide (6 = w))
  k7 : PySem.W.kitOne K (.ref D) (.ref g.TooWide) = some (decide (7 = w))
  k8 : PySem.W.kitOne K (.ref D) (.ref g.NotRead) = some (decide (8 = w))
  kT : PySem.W.kitOne K (.ref D) (.type "ValueError") = some true
def whichB (w : Nat) : List Bool := (List.range 9).map (fun k => decide (k = w)) ++ [false]
def sp_L_which (K : PySem.W.Frag) (g : Gd) : Addr → Addr → Hp → VK → Prop := fun D a H Q => ∃ w : Nat, WhC K g D w ∧ ∀ (r : Addr) (H' : Hp), H' r = some (.lst (vB (whichB w))) → Q (.ref r) H'
abbrev N_L_which : List Str := ["e", "first", "then_more"]
/-- _law_which -/
def t_L_which (K : PySem.W.Frag) (g : Gd) (D a : Addr) : TS :=
  (tSeq (tAsg (tLst (tCons (tCB (rIsE2 K (.ref D) none a) (tCons (tVar 0) (tCons (tC (.ref g.NoSize)) tNil))) (tCons (tCB (rIsE2 K (.ref D) none a) (tCons (tVar 0) (tCons (tC (.ref g.NoSeating)) tNil))) (tCons (tCB (rIsE2 K (.ref D) none a) (tCons (tVar 0) (tCons (tC (.ref g.OtherSize)) tNil))) (tCons (tCB (rIsE2 K (.ref D) none a) (tCons (tVar 0) (tCons (tC (.ref g.NoSeat)) tNil))) tNil))))) (gName 1))
    (tSeq (tAsg (tLst (tCons (tCB (rIsE2 K (.ref D) none a) (tCons (tVar 0) (tCons (tC (.ref g.NoNumber)) tNil))) (tCons (tCB (rIsE2 K (.ref D) none a) (tCons (tVar 0) (tCons (tC (.ref g.TooMany)) tNil))) (tCons (tCB (rIsE2 K (.ref D) none a) (tCons (tVar 0) (tCons (tC (.ref g.Unreached)) tNil))) tNil)))) (gName 2))
    (tRet (tOp rCat (tOp rCat (tVar 1) (tVar 2)) (tLst (tCons (tCB (rIsE2 K (.ref D) none a) (tCons (tVar 0) (tCons (tC (.ref g.TooWide)) tNil))) (tCons (tCB (rIsE2 K (.ref D) none a) (tCons (tVar 0) (tCons (tC (.ref g.NotRead)) tNil))) (tCons (tNotV (tCB (rIsE2 K (.ref D) none a) (tCons (tVar 0) (tCons (tC (.ty "ValueError")) tNil)))) tNil))))))))
theorem pure_L_which {K : PySem.W.Frag} {g : Gd} (D a : Addr) (H : Hp) (Q : VK) (h : sp_L_which K g D a H Q) : Rd1 (t_L_which K g D a) N_L_which [.ref a] H Q := by
  obtain ⟨w, W, k⟩ := h
  unfold t_L_which
  walk_at "rd"
  refine is_E W.x W.k0 ?_
  walk_at "rd"
  refine is_E W.x W.k1 ?_
  walk_at "rd"
  refine is_E W.x W.k2 ?_
  walk_at "rd"
  refine is_E W.x W.k3 ?_
  walk_at "rd"
  refine ⟨zl (by show 4 ≤ 100000; decide), fun l1 hl1 => ?_⟩
  walk_at "rd"
  refine is_E W.x W.k4 ?_
  walk_at "rd"
  refine is_E W.x W.k5 ?_
  walk_at "rd"
  refine is_E W.x W.k6 ?_
  walk_at "rd"
  refine ⟨zl (by show 3 ≤ 100000; decide), fun l2 hl2 => ?_⟩
  walk_at "rd"
  refine ⟨l1, l2, _, _, rfl, rfl, by rw [upd_ne (ne_of_none upd_same hl2)]; exact upd_same, upd_same, zl (by show 4 + 3 ≤ 100000; decide), fun l3 hl3 => ?_⟩
  walk_at "rd"
  refine is_E W.x W.k7 ?_
  walk_at "rd"
  refine is_E W.x W.k8 ?_
  walk_at "rd"
  refine is_ET W.x W.kT ?_
  walk_at "rd"
  refine ⟨zl (by show 3 ≤ 100000; decide), fun l4 hl4 => ?_⟩
  walk_at "rd"
  refine ⟨l3, l4, _, _, rfl, rfl, by rw [upd_ne (ne_of_none upd_same hl4)]; exact upd_same, upd_same, zl (by show 7 + 3 ≤ 100000; decide), fun l5 hl5 => ?_⟩
  walk_at "rd"
  exact k l5 _ upd_same
theorem eq_LBl {K : PySem.W.Frag} {H : Hp} {Q : VK} {p q : Addr} {a b : List Bool} (ha : SqL K H p (vB a)) (hb : SqL K H q (vB b)) (k : Q (.bl (decide (a = b))) H) : rEqD K (.ref p) (.ref q) H Q := by
  refine ⟨.list (a.map PyData.bool), .list (b.map PyData.bool), .lst ha (dpAll_B a), .lst hb (dpAll_B b), ?_, ?_, ?_⟩
  · refine shp ?_ ?_
    · unfold PyData.canLay0
      exact canAll_map (fun x => by simp [PyData.canLay0]) a
    · unfold PyData.depth
      have := depthAll_map (f := PyData.bool) (n := 0) (fun x => by simp [PyData.depth]) a
      omega
  · refine shp ?_ ?_
    · unfold PyData.canLay0
      exact canAll_map (fun x => by simp [PyData.canLay0]) b
    · unfold PyData.depth
      have := depthAll_map (f := PyData.bool) (n := 0) (fun x => by simp [PyData.depth]) b
      omega
  · rw [show PyData.eqv (.list (a.map PyData.bool)) (.list (b.map PyData.bool)) = decide (a = b) by
      unfold PyData.eqv
      exact eqvAll_map eqv_bool a b]
    exact k
--@extra exm NoSize RoomError
--@extra isE NoSize
--@extra kitT NoSize ValueError true
--@extra kit NoSize NoSize true
--@extra kit NoSize NoSeating false
--@extra kit NoSize OtherSize false
--@extra kit NoSize NoSeat false
--@extra kit NoSize NoNumber false
--@extra kit NoSize TooMany false
--@extra kit NoSize Unreached false
--@extra kit NoSize TooWide false
--@extra kit NoSize NotRead false
--@extra exm NoSeating RoomError
--@extra isE NoSeating
--@extra kitT NoSeating ValueError true
--@extra kit NoSeating NoSize false
--@extra kit NoSeating NoSeating true
--@extra kit NoSeating OtherSize false
--@extra kit NoSeating NoSeat false
--@extra kit NoSeating NoNumber false
--@extra kit NoSeating TooMany false
--@extra kit NoSeating Unreached false
--@extra kit NoSeating TooWide false
--@extra kit NoSeating NotRead false
--@extra exm OtherSize RoomError
--@extra isE OtherSize
--@extra kitT OtherSize ValueError true
--@extra kit OtherSize NoSize false
--@extra kit OtherSize NoSeating false
--@extra kit OtherSize OtherSize true
--@extra kit OtherSize NoSeat false
--@extra kit OtherSize NoNumber false
--@extra kit OtherSize TooMany false
--@extra kit OtherSize Unreached false
--@extra kit OtherSize TooWide false
--@extra kit OtherSize NotRead false
--@extra exm NoSeat RoomError
--@extra isE NoSeat
--@extra kitT NoSeat ValueError true
--@extra kit NoSeat NoSize false
--@extra kit NoSeat NoSeating false
--@extra kit NoSeat OtherSize false
--@extra kit NoSeat NoSeat true
--@extra kit NoSeat NoNumber false
--@extra kit NoSeat TooMany false
--@extra kit NoSeat Unreached false
--@extra kit NoSeat TooWide false
--@extra kit NoSeat NotRead false
--@extra exm NoNumber RoomError
--@extra isE NoNumber
--@extra kitT NoNumber ValueError true
--@extra kit NoNumber NoSize false
--@extra kit NoNumber NoSeating false
--@extra kit NoNumber OtherSize false
--@extra kit NoNumber NoSeat false
--@extra kit NoNumber NoNumber true
--@extra kit NoNumber TooMany false
--@extra kit NoNumber Unreached false
--@extra kit NoNumber TooWide false
--@extra kit NoNumber NotRead false
--@extra exm TooMany RoomError
--@extra isE TooMany
--@extra kitT TooMany ValueError true
--@extra kit TooMany NoSize false
--@extra kit TooMany NoSeating false
--@extra kit TooMany OtherSize false
--@extra kit TooMany NoSeat false
--@extra kit TooMany NoNumber false
--@extra kit TooMany TooMany true
--@extra kit TooMany Unreached false
--@extra kit TooMany TooWide false
--@extra kit TooMany NotRead false
--@extra exm Unreached RoomError
--@extra isE Unreached
--@extra kitT Unreached ValueError true
--@extra kit Unreached NoSize false
--@extra kit Unreached NoSeating false
--@extra kit Unreached OtherSize false
--@extra kit Unreached NoSeat false
--@extra kit Unreached NoNumber false
--@extra kit Unreached TooMany false
--@extra kit Unreached Unreached true
--@extra kit Unreached TooWide false
--@extra kit Unreached NotRead false
--@extra exm TooWide RoomError
--@extra isE TooWide
--@extra kitT TooWide ValueError true
--@extra kit TooWide NoSize false
--@extra kit TooWide NoSeating false
--@extra kit TooWide OtherSize false
--@extra kit TooWide NoSeat false
--@extra kit TooWide NoNumber false
--@extra kit TooWide TooMany false
--@extra kit TooWide Unreached false
--@extra kit TooWide TooWide true
--@extra kit TooWide NotRead false
--@extra exm NotRead RoomError
--@extra isE NotRead
--@extra kitT NotRead ValueError true
--@extra kit NotRead NoSize false
--@extra kit NotRead NoSeating false
--@extra kit NotRead OtherSize false
--@extra kit NotRead NoSeat false
--@extra kit NotRead NoNumber false
--@extra kit NotRead TooMany false
--@extra kit NotRead Unreached false
--@extra kit NotRead TooWide false
--@extra kit NotRead NotRead true
--@facts k21:law m_NoSize_RoomError e_NoSize k_NoSize_NoSize k_NoSize_NoSeating k_NoSize_OtherSize k_NoSize_NoSeat k_NoSize_NoNumber k_NoSize_TooMany k_NoSize_Unreached k_NoSize_TooWide k_NoSize_NotRead k_NoSize_ValueError m_NoSeating_RoomError e_NoSeating k_NoSeating_NoSize k_NoSeating_NoSeating k_NoSeating_OtherSize k_NoSeating_NoSeat k_NoSeating_NoNumber k_NoSeating_TooMany k_NoSeating_Unreached k_NoSeating_TooWide k_NoSeating_NotRead k_NoSeating_ValueError m_OtherSize_RoomError e_OtherSize k_OtherSize_NoSize k_OtherSize_NoSeating k_OtherSize_OtherSize k_OtherSize_NoSeat k_OtherSize_NoNumber k_OtherSize_TooMany k_OtherSize_Unreached k_OtherSize_TooWide k_OtherSize_NotRead k_OtherSize_ValueError m_NoSeat_RoomError e_NoSeat k_NoSeat_NoSize k_NoSeat_NoSeating k_NoSeat_OtherSize k_NoSeat_NoSeat k_NoSeat_NoNumber k_NoSeat_TooMany k_NoSeat_Unreached k_NoSeat_TooWide k_NoSeat_NotRead k_NoSeat_ValueError m_NoNumber_RoomError e_NoNumber k_NoNumber_NoSize k_NoNumber_NoSeating k_NoNumber_OtherSize k_NoNumber_NoSeat k_NoNumber_NoNumber k_NoNumber_TooMany k_NoNumber_Unreached k_NoNumber_TooWide k_NoNumber_NotRead k_NoNumber_ValueError m_TooMany_RoomError e_TooMany k_TooMany_NoSize k_TooMany_NoSeating k_TooMany_OtherSize k_TooMany_NoSeat k_TooMany_NoNumber k_TooMany_TooMany k_TooMany_Unreached k_TooMany_TooWide k_TooMany_NotRead k_TooMany_ValueError m_Unreached_RoomError e_Unreached k_Unreached_NoSize k_Unreached_NoSeating k_Unreached_OtherSize k_Unreached_NoSeat k_Unreached_NoNumber k_Unreached_TooMany k_Unreached_Unreached k_Unreached_TooWide k_Unreached_NotRead k_Unreached_ValueError m_TooWide_RoomError e_TooWide k_TooWide_NoSize k_TooWide_NoSeating k_TooWide_OtherSize k_TooWide_NoSeat k_TooWide_NoNumber k_TooWide_TooMany k_TooWide_Unreached k_TooWide_TooWide k_TooWide_NotRead k_TooWide_ValueError m_NotRead_RoomError e_NotRead k_NotRead_NoSize k_NotRead_NoSeating k_NotRead_OtherSize k_NotRead_NoSeat k_NotRead_NoNumber k_NotRead_TooMany k_NotRead_Unreached k_NotRead_TooWide k_NotRead_NotRead k_NotRead_ValueError
abbrev N_law_k21 : List Str := ["script", "way", "size", "far", "told", "e", "k"]
/-- law -/
def t_law_k21 (K : PySem.W.Frag) (g : Gd) (E : XK) : TS :=
  (tSeq (tAsg (tOp rModI (tCallS (sp_L_cell_at K g) (fun _ => E0) (tCons (tVar 0) (tCons (tC (.int 0)) tNil))) (tC (.int 9))) (gName 1))
    (tSeq (tAsg (tOp rAddI (tC (.int 1)) (tOp rModI (tOp rDivI (tCallS (sp_L_cell_at K g) (fun _ => E0) (tCons (tVar 0) (tCons (tC (.int 0)) tNil))) (tC (.int 9))) (tC (.int 16)))) (gName 2))
    (tSeq (tAsg (tOp rModI (tCallS (sp_L_cell_at K g) (fun _ => E0) (tCons (tVar 0) (tCons (tC (.int 2)) tNil))) (tOp rPowI (tC (.int 10)) (tC (.int 59)))) (gName 3))
    (tSeq (tAsg (tLst tNil) (gName 4))
    (tSeq (fun D σ H => (fun W => (tDrop (tCallS (sp_L_done K g) (WE W) (tCons (tVar 1) (tCons (tVar 2) (tCons (tCallS (sp_L_cell_at K g) (fun _ => E0) (tCons (tVar 0) (tCons (tC (.int 1)) tNil))) (tCons (tVar 3) tNil))))))) (wAs K (.ref g.RoomError) 5 (fun a cls d => (tAsg (tLend cls d a 5 (sp_L_which K g)) (gName 4))) (wE E) D) D σ H)
    (tRet (tOp (rEqD K) (tVar 4) (tOp rCat (tLc (iRng1 (tCons (tC (.int 9)) tNil)) (gName 6) tYes (tOp rEq (tVar 6) (tVar 1)) [6]) (tLst (tCons (tC (.bl false)) tNil))))))))))
theorem pure_law_k21 {K : PySem.W.Frag} {g : Gd} (m0 : PySem.W.exmOne K (.ref g.NoSize) (.ref g.RoomError) = some true)
    (x0 : ExcC K g.NoSize)
    (a0_0 : PySem.W.kitOne K (.ref g.NoSize) (.ref g.NoSize) = some true)
    (a0_1 : PySem.W.kitOne K (.ref g.NoSize) (.ref g.NoSeating) = some false)
    (a0_2 : PySem.W.kitOne K (.ref g.NoSize) (.ref g.OtherSize) = some false)
    (a0_3 : PySem.W.kitOne K (.ref g.NoSize) (.ref g.NoSeat) = some false)
    (a0_4 : PySem.W.kitOne K (.ref g.NoSize) (.ref g.NoNumber) = some false)
    (a0_5 : PySem.W.kitOne K (.ref g.NoSize) (.ref g.TooMany) = some false)
    (a0_6 : PySem.W.kitOne K (.ref g.NoSize) (.ref g.Unreached) = some false)
    (a0_7 : PySem.W.kitOne K (.ref g.NoSize) (.ref g.TooWide) = some false)
    (a0_8 : PySem.W.kitOne K (.ref g.NoSize) (.ref g.NotRead) = some false)
    (t0 : PySem.W.kitOne K (.ref g.NoSize) (.type "ValueError") = some true)
    (m1 : PySem.W.exmOne K (.ref g.NoSeating) (.ref g.RoomError) = some true)
    (x1 : ExcC K g.NoSeating)
    (a1_0 : PySem.W.kitOne K (.ref g.NoSeating) (.ref g.NoSize) = some false)
    (a1_1 : PySem.W.kitOne K (.ref g.NoSeating) (.ref g.NoSeating) = some true)
    (a1_2 : PySem.W.kitOne K (.ref g.NoSeating) (.ref g.OtherSize) = some false)
    (a1_3 : PySem.W.kitOne K (.ref g.NoSeating) (.ref g.NoSeat) = some false)
    (a1_4 : PySem.W.kitOne K (.ref g.NoSeating) (.ref g.NoNumber) = some false)
    (a1_5 : PySem.W.kitOne K (.ref g.NoSeating) (.ref g.TooMany) = some false)
    (a1_6 : PySem.W.kitOne K (.ref g.NoSeating) (.ref g.Unreached) = some false)
    (a1_7 : PySem.W.kitOne K (.ref g.NoSeating) (.ref g.TooWide) = some false)
    (a1_8 : PySem.W.kitOne K (.ref g.NoSeating) (.ref g.NotRead) = some false)
    (t1 : PySem.W.kitOne K (.ref g.NoSeating) (.type "ValueError") = some true)
    (m2 : PySem.W.exmOne K (.ref g.OtherSize) (.ref g.RoomError) = some true)
    (x2 : ExcC K g.OtherSize)
    (a2_0 : PySem.W.kitOne K (.ref g.OtherSize) (.ref g.NoSize) = some false)
    (a2_1 : PySem.W.kitOne K (.ref g.OtherSize) (.ref g.NoSeating) = some false)
    (a2_2 : PySem.W.kitOne K (.ref g.OtherSize) (.ref g.OtherSize) = some true)
    (a2_3 : PySem.W.kitOne K (.ref g.OtherSize) (.ref g.NoSeat) = some false)
    (a2_4 : PySem.W.kitOne K (.ref g.OtherSize) (.ref g.NoNumber) = some false)
    (a2_5 : PySem.W.kitOne K (.ref g.OtherSize) (.ref g.TooMany) = some false)
    (a2_6 : PySem.W.kitOne K (.ref g.OtherSize) (.ref g.Unreached) = some false)
    (a2_7 : PySem.W.kitOne K (.ref g.OtherSize) (.ref g.TooWide) = some false)
    (a2_8 : PySem.W.kitOne K (.ref g.OtherSize) (.ref g.NotRead) = some false)
    (t2 : PySem.W.kitOne K (.ref g.OtherSize) (.type "ValueError") = some true)
    (m3 : PySem.W.exmOne K (.ref g.NoSeat) (.ref g.RoomError) = some true)
    (x3 : ExcC K g.NoSeat)
    (a3_0 : PySem.W.kitOne K (.ref g.NoSeat) (.ref g.NoSize) = some false)
    (a3_1 : PySem.W.kitOne K (.ref g.NoSeat) (.ref g.NoSeating) = some false)
    (a3_2 : PySem.W.kitOne K (.ref g.NoSeat) (.ref g.OtherSize) = some false)
    (a3_3 : PySem.W.kitOne K (.ref g.NoSeat) (.ref g.NoSeat) = some true)
    (a3_4 : PySem.W.kitOne K (.ref g.NoSeat) (.ref g.NoNumber) = some false)
    (a3_5 : PySem.W.kitOne K (.ref g.NoSeat) (.ref g.TooMany) = some false)
    (a3_6 : PySem.W.kitOne K (.ref g.NoSeat) (.ref g.Unreached) = some false)
    (a3_7 : PySem.W.kitOne K (.ref g.NoSeat) (.ref g.TooWide) = some false)
    (a3_8 : PySem.W.kitOne K (.ref g.NoSeat) (.ref g.NotRead) = some false)
    (t3 : PySem.W.kitOne K (.ref g.NoSeat) (.type "ValueError") = some true)
    (m4 : PySem.W.exmOne K (.ref g.NoNumber) (.ref g.RoomError) = some true)
    (x4 : ExcC K g.NoNumber)
    (a4_0 : PySem.W.kitOne K (.ref g.NoNumber) (.ref g.NoSize) = some false)
    (a4_1 : PySem.W.kitOne K (.ref g.NoNumber) (.ref g.NoSeating) = some false)
    (a4_2 : PySem.W.kitOne K (.ref g.NoNumber) (.ref g.OtherSize) = some false)
    (a4_3 : PySem.W.kitOne K (.ref g.NoNumber) (.ref g.NoSeat) = some false)
    (a4_4 : PySem.W.kitOne K (.ref g.NoNumber) (.ref g.NoNumber) = some true)
    (a4_5 : PySem.W.kitOne K (.ref g.NoNumber) (.ref g.TooMany) = some false)
    (a4_6 : PySem.W.kitOne K (.ref g.NoNumber) (.ref g.Unreached) = some false)
    (a4_7 : PySem.W.kitOne K (.ref g.NoNumber) (.ref g.TooWide) = some false)
    (a4_8 : PySem.W.kitOne K (.ref g.NoNumber) (.ref g.NotRead) = some false)
    (t4 : PySem.W.kitOne K (.ref g.NoNumber) (.type "ValueError") = some true)
    (m5 : PySem.W.exmOne K (.ref g.TooMany) (.ref g.RoomError) = some true)
    (x5 : ExcC K g.TooMany)
    (a5_0 : PySem.W.kitOne K (.ref g.TooMany) (.ref g.NoSize) = some false)
    (a5_1 : PySem.W.kitOne K (.ref g.TooMany) (.ref g.NoSeating) = some false)
    (a5_2 : PySem.W.kitOne K (.ref g.TooMany) (.ref g.OtherSize) = some false)
    (a5_3 : PySem.W.kitOne K (.ref g.TooMany) (.ref g.NoSeat) = some false)
    (a5_4 : PySem.W.kitOne K (.ref g.TooMany) (.ref g.NoNumber) = some false)
    (a5_5 : PySem.W.kitOne K (.ref g.TooMany) (.ref g.TooMany) = some true)
    (a5_6 : PySem.W.kitOne K (.ref g.TooMany) (.ref g.Unreached) = some false)
    (a5_7 : PySem.W.kitOne K (.ref g.TooMany) (.ref g.TooWide) = some false)
    (a5_8 : PySem.W.kitOne K (.ref g.TooMany) (.ref g.NotRead) = some false)
    (t5 : PySem.W.kitOne K (.ref g.TooMany) (.type "ValueError") = some true)
    (m6 : PySem.W.exmOne K (.ref g.Unreached) (.ref g.RoomError) = some true)
    (x6 : ExcC K g.Unreached)
    (a6_0 : PySem.W.kitOne K (.ref g.Unreached) (.ref g.NoSize) = some false)
    (a6_1 : PySem.W.kitOne K (.ref g.Unreached) (.ref g.NoSeating) = some false)
    (a6_2 : PySem.W.kitOne K (.ref g.Unreached) (.ref g.OtherSize) = some false)
    (a6_3 : PySem.W.kitOne K (.ref g.Unreached) (.ref g.NoSeat) = some false)
    (a6_4 : PySem.W.kitOne K (.ref g.Unreached) (.ref g.NoNumber) = some false)
    (a6_5 : PySem.W.kitOne K (.ref g.Unreached) (.ref g.TooMany) = some false)
    (a6_6 : PySem.W.kitOne K (.ref g.Unreached) (.ref g.Unreached) = some true)
    (a6_7 : PySem.W.kitOne K (.ref g.Unreached) (.ref g.TooWide) = some false)
    (a6_8 : PySem.W.kitOne K (.ref g.Unreached) (.ref g.NotRead) = some false)
    (t6 : PySem.W.kitOne K (.ref g.Unreached) (.type "ValueError") = some true)
    (m7 : PySem.W.exmOne K (.ref g.TooWide) (.ref g.RoomError) = some true)
    (x7 : ExcC K g.TooWide)
    (a7_0 : PySem.W.kitOne K (.ref g.TooWide) (.ref g.NoSize) = some false)
    (a7_1 : PySem.W.kitOne K (.ref g.TooWide) (.ref g.NoSeating) = some false)
    (a7_2 : PySem.W.kitOne K (.ref g.TooWide) (.ref g.OtherSize) = some false)
    (a7_3 : PySem.W.kitOne K (.ref g.TooWide) (.ref g.NoSeat) = some false)
    (a7_4 : PySem.W.kitOne K (.ref g.TooWide) (.ref g.NoNumber) = some false)
    (a7_5 : PySem.W.kitOne K (.ref g.TooWide) (.ref g.TooMany) = some false)
    (a7_6 : PySem.W.kitOne K (.ref g.TooWide) (.ref g.Unreached) = some false)
    (a7_7 : PySem.W.kitOne K (.ref g.TooWide) (.ref g.TooWide) = some true)
    (a7_8 : PySem.W.kitOne K (.ref g.TooWide) (.ref g.NotRead) = some false)
    (t7 : PySem.W.kitOne K (.ref g.TooWide) (.type "ValueError") = some true)
    (m8 : PySem.W.exmOne K (.ref g.NotRead) (.ref g.RoomError) = some true)
    (x8 : ExcC K g.NotRead)
    (a8_0 : PySem.W.kitOne K (.ref g.NotRead) (.ref g.NoSize) = some false)
    (a8_1 : PySem.W.kitOne K (.ref g.NotRead) (.ref g.NoSeating) = some false)
    (a8_2 : PySem.W.kitOne K (.ref g.NotRead) (.ref g.OtherSize) = some false)
    (a8_3 : PySem.W.kitOne K (.ref g.NotRead) (.ref g.NoSeat) = some false)
    (a8_4 : PySem.W.kitOne K (.ref g.NotRead) (.ref g.NoNumber) = some false)
    (a8_5 : PySem.W.kitOne K (.ref g.NotRead) (.ref g.TooMany) = some false)
    (a8_6 : PySem.W.kitOne K (.ref g.NotRead) (.ref g.Unreached) = some false)
    (a8_7 : PySem.W.kitOne K (.ref g.NotRead) (.ref g.TooWide) = some false)
    (a8_8 : PySem.W.kitOne K (.ref g.NotRead) (.ref g.NotRead) = some true)
    (t8 : PySem.W.kitOne K (.ref g.NotRead) (.type "ValueError") = some true)
    (vs : List V) (H : Hp) (Q : VK) (E : XK) (h : sp_law K vs H Q E) : Rd1 (t_law_k21 K g E) N_law_k21 vs H Q := by
  obtain ⟨S, ns, rfl, hS, _, k⟩ := h
  have facts : ∀ w, w < 9 → PySem.W.exmOne K (.ref (clsN g w)) (.ref g.RoomError) = some true ∧ WhC K g (clsN g w) w := by
    intro w hw
    match w, hw with
    | 0, _ => exact ⟨m0, ⟨x0, a0_0, a0_1, a0_2, a0_3, a0_4, a0_5, a0_6, a0_7, a0_8, t0⟩⟩
    | 1, _ => exact ⟨m1, ⟨x1, a1_0, a1_1, a1_2, a1_3, a1_4, a1_5, a1_6, a1_7, a1_8, t1⟩⟩
    | 2, _ => exact ⟨m2, ⟨x2, a2_0, a2_1, a2_2, a2_3, a2_4, a2_5, a2_6, a2_7, a2_8, t2⟩⟩
    | 3, _ => exact ⟨m3, ⟨x3, a3_0, a3_1, a3_2, a3_3, a3_4, a3_5, a3_6, a3_7, a3_8, t3⟩⟩
    | 4, _ => exact ⟨m4, ⟨x4, a4_0, a4_1, a4_2, a4_3, a4_4, a4_5, a4_6, a4_7, a4_8, t4⟩⟩
    | 5, _ => exact ⟨m5, ⟨x5, a5_0, a5_1, a5_2, a5_3, a5_4, a5_5, a5_6, a5_7, a5_8, t5⟩⟩
    | 6, _ => exact ⟨m6, ⟨x6, a6_0, a6_1, a6_2, a6_3, a6_4, a6_5, a6_6, a6_7, a6_8, t6⟩⟩
    | 7, _ => exact ⟨m7, ⟨x7, a7_0, a7_1, a7_2, a7_3, a7_4, a7_5, a7_6, a7_7, a7_8, t7⟩⟩
    | 8, _ => exact ⟨m8, ⟨x8, a8_0, a8_1, a8_2, a8_3, a8_4, a8_5, a8_6, a8_7, a8_8, t8⟩⟩
  unfold t_law_k21
  walk_at "rd"
  refine ⟨S, ns, 0, rfl, hS, ?_⟩
  walk_at "rd"
  refine mod_I (by decide) ?_
  walk_at "rd"
  refine ⟨S, ns, 0, rfl, hS, ?_⟩
  walk_at "rd"
  refine div_I (by decide) (by decide) ?_
  walk_at "rd"
  refine mod_I (by decide) ?_
  walk_at "rd"
  obtain ⟨w, ew, hw⟩ : ∃ w : Nat, ns.getD 0 0 % 9 = (w : Int) ∧ w < 9 := ⟨(ns.getD 0 0 % 9).toNat, by omega, by omega⟩
  obtain ⟨n, en, n1, n16⟩ : ∃ n : Nat, 1 + ns.getD 0 0 / 9 % 16 = (n : Int) ∧ 1 ≤ n ∧ n ≤ 16 := ⟨(1 + ns.getD 0 0 / 9 % 16).toNat, by omega, by omega, by omega⟩
  rw [ew, en]
  refine ⟨S, ns, 2, rfl, hS, ?_⟩
  walk_at "rd"
  refine pow_10 (n := 59) (by omega) ?_
  refine mod_I (by decide) ?_
  have hfar := Int.emod_nonneg (ns.getD 2 0) (show (10 ^ 59 : Int) ≠ 0 by decide)
  generalize ns.getD 2 0 % 10 ^ 59 = far at *
  walk_at "rd"
  refine ⟨zl (by show 0 ≤ 100000; decide), fun t ht => ?_⟩
  walk_at "rd"
  refine ⟨S, ns, 1, rfl, ((Same.refl H).new ht).lst hS, ?_⟩
  walk_at "rd"
  obtain ⟨m, W⟩ := facts w hw
  refine ⟨w, n, _, far, rfl, hw, n1, n16, hfar, fun H1 => ⟨true, m, fun _ ea hea => ?_, fun z => by cases z⟩⟩
  walk_at "st"
  refine ⟨rfl, _, rfl, rfl, w, W, fun r H2 hr => ?_⟩
  walk_at "rd"
  refine w_lc ?_
  walk_at "ex"
  refine ⟨_, rfl, by omega, by omega, fun D hD => have hne : r ≠ D := ne_of_none hr hD; lc_range (lo := 0) (n := 9) (fun i H3 => H3 r = some (.lst (vB (whichB w))) ∧ H3 D = some (.lst (vB ((List.range i).map fun x => decide (x = w))))) ⟨by rw [upd_ne (ne_of_none hr hD)]; exact hr, upd_same⟩ ?_ ?_⟩
  · rintro i H3 hi ⟨h1, h2⟩
    refine ⟨rfl, ?_⟩
    walk_at "ex"
    refine ⟨_, h2, by rw [List.length_map, List.length_map, List.length_range]; exact zlt (by omega), by rw [upd_ne hne]; exact h1, ?_⟩
    rw [upd_same, List.range_succ, Int.zero_add, dec_iff (show ((i : Int) = (w : Int)) ↔ i = w by omega)]
    show _ = some (HO.lst ((((List.range i) ++ [i]).map fun x => decide (x = w)).map V.bl))
    rw [List.map_append, List.map_append] <;> rfl
  · rintro H3 ⟨h1, h2⟩
    walk_at "ex"
    refine ⟨zl (by show 1 ≤ 100000; decide), fun l hl => ?_⟩
    walk_at "ex"
    refine ⟨D, l, _, _, rfl, rfl, by rw [upd_ne (ne_of_none h2 hl)]; exact h2, upd_same, zl (by show 9 + 1 ≤ 100000; decide), fun p hp => ?_⟩
    walk_at "ex"
    refine eq_LBl (a := whichB w) (b := whichB w) (sqL ?_) (sqL upd_same) ?_
    · have e1 : (upd H3 l (.lst [V.bl false])) r = some (.lst (vB (whichB w))) := by rw [upd_ne (ne_of_none h1 hl)]; exact h1
      rw [upd_ne (ne_of_none e1 hp)]
      exact e1
    · rw [decide_eq_true rfl]
      exact k _
end Shf

namespace Shf
open PySem L2
def top (i : Nat) : Stmt := PySem.Challenge.pw_shiftroom_k21_each_refusal_its_own.main.body.getD i (.Pass ⟨0, 0, 0, 0⟩)
abbrev s_L_cell_at : Stmt := top 48
abbrev s_ask_size : Stmt := top 14
abbrev s_rest : Stmt := top 18
abbrev s_Book_init : Stmt := inClass (top 22) 0
abbrev s_Room_init : Stmt := inClass (top 25) 0
abbrev s_Room_how_many : Stmt := inClass (top 25) 4
abbrev s_joined : Stmt := top 16
abbrev s_Room_numbered : Stmt := inClass (top 25) 8
abbrev s_L_bad_k21 : Stmt := top 51
abbrev s_L_far : Stmt := top 49
abbrev s_Book_note : Stmt := inClass (top 22) 1
abbrev s_turned : Stmt := top 17
abbrev s_Book_keep : Stmt := inClass (top 22) 3
abbrev s_Book_sifted : Stmt := inClass (top 22) 2
abbrev s_Book_close : Stmt := inClass (top 22) 4
abbrev s_is_seating : Stmt := top 13
abbrev s_ask_seating : Stmt := top 15
abbrev s_Room_ask : Stmt := inClass (top 25) 1
abbrev s_Room_put_move : Stmt := inClass (top 25) 2
abbrev s_L_full_k21 : Stmt := top 56
abbrev s_Room_table : Stmt := inClass (top 25) 7
abbrev s_ask_seat : Stmt := top 34
abbrev s_holding : Stmt := top 39
abbrev s_Room_moves : Stmt := inClass (top 25) 3
abbrev s_one_part : Stmt := top 36
abbrev s_parting : Stmt := top 37
abbrev s_ring_of : Stmt := top 35
abbrev s_L_no_seat : Stmt := top 55
abbrev s_Room_number_of : Stmt := inClass (top 25) 9
abbrev s_Room_reaches : Stmt := inClass (top 25) 5
abbrev s_Room_recipe : Stmt := inClass (top 25) 6
abbrev s_rings : Stmt := top 27
abbrev s_shared : Stmt := top 28
abbrev s_age : Stmt := top 29
abbrev s_back : Stmt := top 20
abbrev s_even : Stmt := top 30
abbrev s_shown : Stmt := top 44
abbrev s_then : Stmt := top 19
abbrev s_times : Stmt := top 31
abbrev s_L_no_seating : Stmt := top 53
abbrev s_seat_of : Stmt := top 45
abbrev s_read : Stmt := top 46
abbrev s_L_no_size : Stmt := top 52
abbrev s_within : Stmt := top 38
abbrev s_L_other_size : Stmt := top 54
abbrev s_L_unreached : Stmt := top 57
abbrev s_many_times : Stmt := top 40
abbrev s_dyed : Stmt := top 41
abbrev s_L_wide_k21 : Stmt := top 58
abbrev s_L_done : Stmt := top 59
abbrev s_L_which : Stmt := top 50
abbrev s_law_k21 : Stmt := top 60
structure Txt (K : PySem.W.Frag) (mg : Str → Option Value) (g : Gd) : Prop where
  z_ValueError : mg "ValueError" = none
  z_int : mg "int" = none
  z_isinstance : mg "isinstance" = none
  z_len : mg "len" = none
  z_list : mg "list" = none
  z_max : mg "max" = none
  z_min : mg "min" = none
  z_range : mg "range" = none
  z_reversed : mg "reversed" = none
  z_set : mg "set" = none
  z_sorted : mg "sorted" = none
  z_str : mg "str" = none
  z_tuple : mg "tuple" = none
  c_FIGURES : ∃ t, mg "FIGURES" = some (.str "0123456789" t)
  c_MANY : ∃ t, mg "MANY" = some (.int 200 t)
  c_MOST : ∃ t, mg "MOST" = some (.int 16 t)
  c_WIDE : ∃ t, mg "WIDE" = some (.int 2000 t)
  g_NoNumber : mg "NoNumber" = some (.ref g.NoNumber)
  g_NoSeat : mg "NoSeat" = some (.ref g.NoSeat)
  g_NoSeating : mg "NoSeating" = some (.ref g.NoSeating)
  g_NoSize : mg "NoSize" = some (.ref g.NoSize)
  g_NotRead : mg "NotRead" = some (.ref g.NotRead)
  g_OtherSize : mg "OtherSize" = some (.ref g.OtherSize)
  g_RoomError : mg "RoomError" = some (.ref g.RoomError)
  g_TooMany : mg "TooMany" = some (.ref g.TooMany)
  g_TooWide : mg "TooWide" = some (.ref g.TooWide)
  g_Unreached : mg "Unreached" = some (.ref g.Unreached)
  x_NoNumber : ExB K mg "NoNumber" g.NoNumber
  x_NoSeat : ExB K mg "NoSeat" g.NoSeat
  x_NoSeating : ExB K mg "NoSeating" g.NoSeating
  x_NoSize : ExB K mg "NoSize" g.NoSize
  x_NotRead : ExB K mg "NotRead" g.NotRead
  x_OtherSize : ExB K mg "OtherSize" g.OtherSize
  x_RoomError : ExB K mg "RoomError" g.RoomError
  x_TooMany : ExB K mg "TooMany" g.TooMany
  x_TooWide : ExB K mg "TooWide" g.TooWide
  x_Unreached : ExB K mg "Unreached" g.Unreached
  g_Book : mg "Book" = some (.ref g.Book)
  cl_Book : Cls K g.Book
  r_Book : BkC K g
  g_Room : mg "Room" = some (.ref g.Room)
  cl_Room : Cls K g.Room
  r_Room : RmC K g
  m_NoSize_RoomError : PySem.W.exmOne K (.ref g.NoSize) (.ref g.RoomError) = some true
  e_NoSize : ExcC K g.NoSize
  k_NoSize_ValueError : PySem.W.kitOne K (.ref g.NoSize) (.type "ValueError") = some true
  k_NoSize_NoSize : PySem.W.kitOne K (.ref g.NoSize) (.ref g.NoSize) = some true
  k_NoSize_NoSeating : PySem.W.kitOne K (.ref g.NoSize) (.ref g.NoSeating) = some false
  k_NoSize_OtherSize : PySem.W.kitOne K (.ref g.NoSize) (.ref g.OtherSize) = some false
  k_NoSize_NoSeat : PySem.W.kitOne K (.ref g.NoSize) (.ref g.NoSeat) = some false
  k_NoSize_NoNumber : PySem.W.kitOne K (.ref g.NoSize) (.ref g.NoNumber) = some false
  k_NoSize_TooMany : PySem.W.kitOne K (.ref g.NoSize) (.ref g.TooMany) = some false
  k_NoSize_Unreached : PySem.W.kitOne K (.ref g.NoSize) (.ref g.Unreached) = some false
  k_NoSize_TooWide : PySem.W.kitOne K (.ref g.NoSize) (.ref g.TooWide) = some false
  k_NoSize_NotRead : PySem.W.kitOne K (.ref g.NoSize) (.ref g.NotRead) = some false
  m_NoSeating_RoomError : PySem.W.exmOne K (.ref g.NoSeating) (.ref g.RoomError) = some true
  e_NoSeating : ExcC K g.NoSeating
  k_NoSeating_ValueError : PySem.W.kitOne K (.ref g.NoSeating) (.type "ValueError") = some true
  k_NoSeating_NoSize : PySem.W.kitOne K (.ref g.NoSeating) (.ref g.NoSize) = some false
  k_NoSeating_NoSeating : PySem.W.kitOne K (.ref g.NoSeating) (.ref g.NoSeating) = some true
  k_NoSeating_OtherSize : PySem.W.kitOne K (.ref g.NoSeating) (.ref g.OtherSize) = some false
  k_NoSeating_NoSeat : PySem.W.kitOne K (.ref g.NoSeating) (.ref g.NoSeat) = some false
  k_NoSeating_NoNumber : PySem.W.kitOne K (.ref g.NoSeating) (.ref g.NoNumber) = some false
  k_NoSeating_TooMany : PySem.W.kitOne K (.ref g.NoSeating) (.ref g.TooMany) = some false
  k_NoSeating_Unreached : PySem.W.kitOne K (.ref g.NoSeating) (.ref g.Unreached) = some false
  k_NoSeating_TooWide : PySem.W.kitOne K (.ref g.NoSeating) (.ref g.TooWide) = some false
  k_NoSeating_NotRead : PySem.W.kitOne K (.ref g.NoSeating) (.ref g.NotRead) = some false
  m_OtherSize_RoomError : PySem.W.exmOne K (.ref g.OtherSize) (.ref g.RoomError) = some true
  e_OtherSize : ExcC K g.OtherSize
  k_OtherSize_ValueError : PySem.W.kitOne K (.ref g.OtherSize) (.type "ValueError") = some true
  k_OtherSize_NoSize : PySem.W.kitOne K (.ref g.OtherSize) (.ref g.NoSize) = some false
  k_OtherSize_NoSeating : PySem.W.kitOne K (.ref g.OtherSize) (.ref g.NoSeating) = some false
  k_OtherSize_OtherSize : PySem.W.kitOne K (.ref g.OtherSize) (.ref g.OtherSize) = some true
  k_OtherSize_NoSeat : PySem.W.kitOne K (.ref g.OtherSize) (.ref g.NoSeat) = some false
  k_OtherSize_NoNumber : PySem.W.kitOne K (.ref g.OtherSize) (.ref g.NoNumber) = some false
  k_OtherSize_TooMany : PySem.W.kitOne K (.ref g.OtherSize) (.ref g.TooMany) = some false
  k_OtherSize_Unreached : PySem.W.kitOne K (.ref g.OtherSize) (.ref g.Unreached) = some false
  k_OtherSize_TooWide : PySem.W.kitOne K (.ref g.OtherSize) (.ref g.TooWide) = some false
  k_OtherSize_NotRead : PySem.W.kitOne K (.ref g.OtherSize) (.ref g.NotRead) = some false
  m_NoSeat_RoomError : PySem.W.exmOne K (.ref g.NoSeat) (.ref g.RoomError) = some true
  e_NoSeat : ExcC K g.NoSeat
  k_NoSeat_ValueError : PySem.W.kitOne K (.ref g.NoSeat) (.type "ValueError") = some true
  k_NoSeat_NoSize : PySem.W.kitOne K (.ref g.NoSeat) (.ref g.NoSize) = some false
  k_NoSeat_NoSeating : PySem.W.kitOne K (.ref g.NoSeat) (.ref g.NoSeating) = some false
  k_NoSeat_OtherSize : PySem.W.kitOne K (.ref g.NoSeat) (.ref g.OtherSize) = some false
  k_NoSeat_NoSeat : PySem.W.kitOne K (.ref g.NoSeat) (.ref g.NoSeat) = some true
  k_NoSeat_NoNumber : PySem.W.kitOne K (.ref g.NoSeat) (.ref g.NoNumber) = some false
  k_NoSeat_TooMany : PySem.W.kitOne K (.ref g.NoSeat) (.ref g.TooMany) = some false
  k_NoSeat_Unreached : PySem.W.kitOne K (.ref g.NoSeat) (.ref g.Unreached) = some false
  k_NoSeat_TooWide : PySem.W.kitOne K (.ref g.NoSeat) (.ref g.TooWide) = some false
  k_NoSeat_NotRead : PySem.W.kitOne K (.ref g.NoSeat) (.ref g.NotRead) = some false
  m_NoNumber_RoomError : PySem.W.exmOne K (.ref g.NoNumber) (.ref g.RoomError) = some true
  e_NoNumber : ExcC K g.NoNumber
  k_NoNumber_ValueError : PySem.W.kitOne K (.ref g.NoNumber) (.type "ValueError") = some true
  k_NoNumber_NoSize : PySem.W.kitOne K (.ref g.NoNumber) (.ref g.NoSize) = some false
  k_NoNumber_NoSeating : PySem.W.kitOne K (.ref g.NoNumber) (.ref g.NoSeating) = some false
  k_NoNumber_OtherSize : PySem.W.kitOne K (.ref g.NoNumber) (.ref g.OtherSize) = some false
  k_NoNumber_NoSeat : PySem.W.kitOne K (.ref g.NoNumber) (.ref g.NoSeat) = some false
  k_NoNumber_NoNumber : PySem.W.kitOne K (.ref g.NoNumber) (.ref g.NoNumber) = some true
  k_NoNumber_TooMany : PySem.W.kitOne K (.ref g.NoNumber) (.ref g.TooMany) = some false
  k_NoNumber_Unreached : PySem.W.kitOne K (.ref g.NoNumber) (.ref g.Unreached) = some false
  k_NoNumber_TooWide : PySem.W.kitOne K (.ref g.NoNumber) (.ref g.TooWide) = some false
  k_NoNumber_NotRead : PySem.W.kitOne K (.ref g.NoNumber) (.ref g.NotRead) = some false
  m_TooMany_RoomError : PySem.W.exmOne K (.ref g.TooMany) (.ref g.RoomError) = some true
  e_TooMany : ExcC K g.TooMany
  k_TooMany_ValueError : PySem.W.kitOne K (.ref g.TooMany) (.type "ValueError") = some true
  k_TooMany_NoSize : PySem.W.kitOne K (.ref g.TooMany) (.ref g.NoSize) = some false
  k_TooMany_NoSeating : PySem.W.kitOne K (.ref g.TooMany) (.ref g.NoSeating) = some false
  k_TooMany_OtherSize : PySem.W.kitOne K (.ref g.TooMany) (.ref g.OtherSize) = some false
  k_TooMany_NoSeat : PySem.W.kitOne K (.ref g.TooMany) (.ref g.NoSeat) = some false
  k_TooMany_NoNumber : PySem.W.kitOne K (.ref g.TooMany) (.ref g.NoNumber) = some false
  k_TooMany_TooMany : PySem.W.kitOne K (.ref g.TooMany) (.ref g.TooMany) = some true
  k_TooMany_Unreached : PySem.W.kitOne K (.ref g.TooMany) (.ref g.Unreached) = some false
  k_TooMany_TooWide : PySem.W.kitOne K (.ref g.TooMany) (.ref g.TooWide) = some false
  k_TooMany_NotRead : PySem.W.kitOne K (.ref g.TooMany) (.ref g.NotRead) = some false
  m_Unreached_RoomError : PySem.W.exmOne K (.ref g.Unreached) (.ref g.RoomError) = some true
  e_Unreached : ExcC K g.Unreached
  k_Unreached_ValueError : PySem.W.kitOne K (.ref g.Unreached) (.type "ValueError") = some true
  k_Unreached_NoSize : PySem.W.kitOne K (.ref g.Unreached) (.ref g.NoSize) = some false
  k_Unreached_NoSeating : PySem.W.kitOne K (.ref g.Unreached) (.ref g.NoSeating) = some false
  k_Unreached_OtherSize : PySem.W.kitOne K (.ref g.Unreached) (.ref g.OtherSize) = some false
  k_Unreached_NoSeat : PySem.W.kitOne K (.ref g.Unreached) (.ref g.NoSeat) = some false
  k_Unreached_NoNumber : PySem.W.kitOne K (.ref g.Unreached) (.ref g.NoNumber) = some false
  k_Unreached_TooMany : PySem.W.kitOne K (.ref g.Unreached) (.ref g.TooMany) = some false
  k_Unreached_Unreached : PySem.W.kitOne K (.ref g.Unreached) (.ref g.Unreached) = some true
  k_Unreached_TooWide : PySem.W.kitOne K (.ref g.Unreached) (.ref g.TooWide) = some false
  k_Unreached_NotRead : PySem.W.kitOne K (.ref g.Unreached) (.ref g.NotRead) = some false
  m_TooWide_RoomError : PySem.W.exmOne K (.ref g.TooWide) (.ref g.RoomError) = some true
  e_TooWide : ExcC K g.TooWide
  k_TooWide_ValueError : PySem.W.kitOne K (.ref g.TooWide) (.type "ValueError") = some true
  k_TooWide_NoSize : PySem.W.kitOne K (.ref g.TooWide) (.ref g.NoSize) = some false
  k_TooWide_NoSeating : PySem.W.kitOne K (.ref g.TooWide) (.ref g.NoSeating) = some false
  k_TooWide_OtherSize : PySem.W.kitOne K (.ref g.TooWide) (.ref g.OtherSize) = some false
  k_TooWide_NoSeat : PySem.W.kitOne K (.ref g.TooWide) (.ref g.NoSeat) = some false
  k_TooWide_NoNumber : PySem.W.kitOne K (.ref g.TooWide) (.ref g.NoNumber) = some false
  k_TooWide_TooMany : PySem.W.kitOne K (.ref g.TooWide) (.ref g.TooMany) = some false
  k_TooWide_Unreached : PySem.W.kitOne K (.ref g.TooWide) (.ref g.Unreached) = some false
  k_TooWide_TooWide : PySem.W.kitOne K (.ref g.TooWide) (.ref g.TooWide) = some true
  k_TooWide_NotRead : PySem.W.kitOne K (.ref g.TooWide) (.ref g.NotRead) = some false
  m_NotRead_RoomError : PySem.W.exmOne K (.ref g.NotRead) (.ref g.RoomError) = some true
  e_NotRead : ExcC K g.NotRead
  k_NotRead_ValueError : PySem.W.kitOne K (.ref g.NotRead) (.type "ValueError") = some true
  k_NotRead_NoSize : PySem.W.kitOne K (.ref g.NotRead) (.ref g.NoSize) = some false
  k_NotRead_NoSeating : PySem.W.kitOne K (.ref g.NotRead) (.ref g.NoSeating) = some false
  k_NotRead_OtherSize : PySem.W.kitOne K (.ref g.NotRead) (.ref g.OtherSize) = some false
  k_NotRead_NoSeat : PySem.W.kitOne K (.ref g.NotRead) (.ref g.NoSeat) = some false
  k_NotRead_NoNumber : PySem.W.kitOne K (.ref g.NotRead) (.ref g.NoNumber) = some false
  k_NotRead_TooMany : PySem.W.kitOne K (.ref g.NotRead) (.ref g.TooMany) = some false
  k_NotRead_Unreached : PySem.W.kitOne K (.ref g.NotRead) (.ref g.Unreached) = some false
  k_NotRead_TooWide : PySem.W.kitOne K (.ref g.NotRead) (.ref g.TooWide) = some false
  k_NotRead_NotRead : PySem.W.kitOne K (.ref g.NotRead) (.ref g.NotRead) = some true
section
variable {P : Program} {w : World} {K : PySem.W.Frag} {mg : Str → Option Value} {base : Heap} {g : Gd}
theorem sc_L_cell_at : FnScope N_L_cell_at ["script", "k"] (defScope s_L_cell_at) := ⟨rfl, rfl, rfl, by decide +kernel, rfl, by decide +kernel, by decide +kernel⟩
theorem ok_L_cell_at {f : Addr} {fd : FuncData} (T : Txt K mg g) (F : Fun K "_law_cell_at" "_law_cell_at" s_L_cell_at f fd)  : FnOk P w K mg base (L2.CX P w) 1 f fd ["script", "k"] (sp_L_cell_at K g) := by
  refine F.okX sc_L_cell_at (fun vs H Q E h => len_L_cell_at K g vs H Q E h) (fun cdv A outer s H vs Q E hr h => ⟨t_L_cell_at K g E, ?_, pure_L_cell_at  vs H Q E h⟩)
  have hu := hu_of hr
  have tkE : Takes (cxOf (L2.CX P w) P w K mg base N_L_cell_at "_law_cell_at" (defScope s_L_cell_at) f cdv A outer s H E) (wE E) := takes_of rfl rfl rfl rfl
  exact (pss_cons (ps_if (pt_cmpR op_lt (pv 1) (pe_callB call_len_seq (by rfl) T.z_len PySem.boot_len (pa_cons (pv 0) pa_nil)) (nomark _)) (pss_one (ps_ret (pe_ix ix_list (pv 0) (pv 1) (fun _ _ => rfl)))) pss_nil)
    (pss_one (ps_ret pe_int)))
theorem sc_ask_size : FnScope N_ask_size ["size"] (defScope s_ask_size) := ⟨rfl, rfl, rfl, by decide +kernel, rfl, by decide +kernel, by decide +kernel⟩
theorem ok_ask_size {f : Addr} {fd : FuncData} (T : Txt K mg g) (F : Fun K "ask_size" "ask_size" s_ask_size f fd)  : FnOk P w K mg base (L2.CX P w) 1 f fd ["size"] (sp_ask_size K g) := by
  refine F.okX sc_ask_size (fun vs H Q E h => len_ask_size K g vs H Q E h) (fun cdv A outer s H vs Q E hr h => ⟨t_ask_size K g E, ?_, pure_ask_size  vs H Q E h⟩)
  have hu := hu_of hr
  have tkE : Takes (cxOf (L2.CX P w) P w K mg base N_ask_size "ask_size" (defScope s_ask_size) f cdv A outer s H E) (wE E) := takes_of rfl rfl rfl rfl
  exact (pss_one (ps_if (PW.pt (pw_or (pt_cmpR op_lt (pv 0) pe_int (nomark _)) (pw_or1 (pt_cmpR op_gt (pv 0) (pe_globI T.c_MOST) (nomark _))))) (pss_one (ps_raise rfl tkE (pmk_own PySem.F.excBase_ValueError T.x_NoSize.ex T.x_NoSize.gC T.x_NoSize.kC (raises_own T.x_NoSize.bC T.x_NoSize.tC) rfl))) pss_nil))
theorem sc_rest : FnScope N_rest ["size"] (defScope s_rest) := ⟨rfl, rfl, rfl, by decide +kernel, rfl, by decide +kernel, by decide +kernel⟩
theorem ok_rest {f : Addr} {fd : FuncData} (T : Txt K mg g) (F : Fun K "rest" "rest" s_rest f fd) (c_ask_size : Cal P w K mg base 1 "ask_size" ["size"] (sp_ask_size K g)) : FnOk P w K mg base (L2.CX P w) 2 f fd ["size"] (sp_rest K g) := by
  refine F.okX sc_rest (fun vs H Q E h => len_rest K g vs H Q E h) (fun cdv A outer s H vs Q E hr h => ⟨t_rest K g E, ?_, pure_rest  vs H Q E h⟩)
  have hu := hu_of hr
  have tkE : Takes (cxOf (L2.CX P w) P w K mg base N_rest "rest" (defScope s_rest) f cdv A outer s H E) (wE E) := takes_of rfl rfl rfl rfl
  exact (pss_cons (ps_expr (pe_cal c_ask_size (hr.mono (by decide)) rfl (fun σ => passAt tkE σ) (pa_cons (pv 0) pa_nil)))
    (pss_one (ps_ret (pe_tupRg rfl (by rfl) T.z_tuple (prg_1 (by rfl) T.z_range (pv 0))))))
theorem sc_Book_init : FnScope N_Book_init ["self", "size"] (defScope s_Book_init) := ⟨rfl, rfl, rfl, by decide +kernel, rfl, by decide +kernel, by decide +kernel⟩
theorem ok_Book_init {f : Addr} {fd : FuncData} (T : Txt K mg g) (F : Fun K "__init__" "Book.__init__" s_Book_init f fd) (c_rest : Cal P w K mg base 2 "rest" ["size"] (sp_rest K g)) : FnOk P w K mg base (L2.CX P w) 3 f fd ["self", "size"] (sp_Book_init K g) := by
  refine F.okX sc_Book_init (fun vs H Q E h => len_Book_init K g vs H Q E h) (fun cdv A outer s H vs Q E hr h => ⟨t_Book_init K g E, ?_, pure_Book_init T.r_Book vs H Q E h⟩)
  have hu := hu_of hr
  have tkE : Takes (cxOf (L2.CX P w) P w K mg base N_Book_init "Book.__init__" (defScope s_Book_init) f cdv A outer s H E) (wE E) := takes_of rfl rfl rfl rfl
  exact (pss_cons (ps_fld (pv 0) (pv 1) rfl)
    (pss_cons (ps_fld (pv 0) (pe_lst (pa_cons (pe_tup (pa_cons pe_str pa_nil)) pa_nil)) rfl)
    (pss_cons (ps_fld (pv 0) (pe_lst (pa_cons (pe_cal c_rest (hr.mono (by decide)) rfl (fun σ => passAt tkE σ) (pa_cons (pv 1) pa_nil)) pa_nil)) rfl)
    (pss_cons (ps_fld (pv 0) (pe_lc (own := [("k", 2)]) (g := gName 2) rfl sc_Book_init.nd (pi_range1 (by rfl) T.z_range (pa_cons (pv 1) pa_nil)) (blkOk_by (own := [("k", 2)]) (N := N_Book_init) (sc := defScope s_Book_init) (by decide +kernel)) (fun _ _ _ _ _ => pg_name (i := 2) sc_Book_init.nd rfl (Or.inl rfl)) (fun _ _ _ _ _ => pts_nil) (fun _ _ _ _ _ => (pe_disp (pps_cons (pv 2) pe_int pps_nil) (by rfl) (by rfl) (fun z => by cases z) (by decide)))) rfl)
    (pss_one (ps_fld (pv 0) (pe_lst pa_nil) rfl))))))
theorem sc_Room_init : FnScope N_Room_init ["self", "size"] (defScope s_Room_init) := ⟨rfl, rfl, rfl, by decide +kernel, rfl, by decide +kernel, by decide +kernel⟩
theorem ok_Room_init {f : Addr} {fd : FuncData} (T : Txt K mg g) (F : Fun K "__init__" "Room.__init__" s_Room_init f fd) (c_Book_init : CalI P w K mg base 3 g.Book ["self", "size"] (sp_Book_init K g)) (c_ask_size : Cal P w K mg base 1 "ask_size" ["size"] (sp_ask_size K g)) : FnOk P w K mg base (L2.CX P w) 5 f fd ["self", "size"] (sp_Room_init K g) := by
  refine F.okX sc_Room_init (fun vs H Q E h => len_Room_init K g vs H Q E h) (fun cdv A outer s H vs Q E hr h => ⟨t_Room_init K g E, ?_, pure_Room_init T.r_Room vs H Q E h⟩)
  have hu := hu_of hr
  have tkE : Takes (cxOf (L2.CX P w) P w K mg base N_Room_init "Room.__init__" (defScope s_Room_init) f cdv A outer s H E) (wE E) := takes_of rfl rfl rfl rfl
  exact (pss_cons (ps_expr (pe_cal c_ask_size (hr.mono (by decide)) rfl (fun σ => passAt tkE σ) (pa_cons (pv 1) pa_nil)))
    (pss_cons (ps_fld (pv 0) (pv 1) rfl)
    (pss_cons (ps_fld (pv 0) (pe_lst pa_nil) rfl)
    (pss_one (ps_fld (pv 0) (pe_mk c_Book_init (hr.mono (by decide)) rfl T.g_Book (fun σ => passE0 σ) (pa_cons (pv 1) pa_nil)) rfl)))))
theorem sc_Room_how_many : FnScope N_Room_how_many ["self"] (defScope s_Room_how_many) := ⟨rfl, rfl, rfl, by decide +kernel, rfl, by decide +kernel, by decide +kernel⟩
theorem ok_Room_how_many {f : Addr} {fd : FuncData} (T : Txt K mg g) (F : Fun K "how_many" "Room.how_many" s_Room_how_many f fd)  : FnOk P w K mg base (L2.CX P w) 1 f fd ["self"] (sp_Room_how_many K g) := by
  refine F.okX sc_Room_how_many (fun vs H Q E h => len_Room_how_many K g vs H Q E h) (fun cdv A outer s H vs Q E hr h => ⟨t_Room_how_many K g E, ?_, pure_Room_how_many T.r_Room T.r_Book vs H Q E h⟩)
  have hu := hu_of hr
  have tkE : Takes (cxOf (L2.CX P w) P w K mg base N_Room_how_many "Room.how_many" (defScope s_Room_how_many) f cdv A outer s H E) (wE E) := takes_of rfl rfl rfl rfl
  exact (pss_cons (ps_set (i := 1) sc_Room_how_many.nd rfl (Or.inl rfl) pe_int)
    (pss_cons (ps_for (passes_of rfl) rfl (pi_list (pe_fld (pe_fld (pv 0) rfl) rfl)) (pg_name (i := 2) sc_Room_how_many.nd rfl (Or.inl rfl)) (pss_one (ps_set (i := 1) sc_Room_how_many.nd rfl (Or.inl rfl) (pe_op op_mul (pv 1) (pe_callB call_lenD (by rfl) T.z_len PySem.boot_len (pa_cons (pv 2) pa_nil))))))
    (pss_one (ps_ret (pv 1)))))
theorem sc_joined : FnScope N_joined ["a", "b"] (defScope s_joined) := ⟨rfl, rfl, rfl, by decide +kernel, rfl, by decide +kernel, by decide +kernel⟩
theorem ok_joined {f : Addr} {fd : FuncData} (T : Txt K mg g) (F : Fun K "joined" "joined" s_joined f fd)  : FnOk P w K mg base (L2.CX P w) 1 f fd ["a", "b"] (sp_joined K g) := by
  refine F.okX sc_joined (fun vs H Q E h => len_joined K g vs H Q E h) (fun cdv A outer s H vs Q E hr h => ⟨t_joined K g E, ?_, pure_joined  vs H Q E h⟩)
  have hu := hu_of hr
  have tkE : Takes (cxOf (L2.CX P w) P w K mg base N_joined "joined" (defScope s_joined) f cdv A outer s H E) (wE E) := takes_of rfl rfl rfl rfl
  exact (pss_one (ps_ret (pe_callTy call_tuple_of (by rfl) T.z_tuple (by decide +kernel) (pa_cons (pe_lc (own := [("k", 2)]) (g := gName 2) rfl sc_joined.nd (pi_tup (pv 0)) (blkOk_by (own := [("k", 2)]) (N := N_joined) (sc := defScope s_joined) (by decide +kernel)) (fun _ _ _ _ _ => pg_name (i := 2) sc_joined.nd rfl (Or.inl rfl)) (fun _ _ _ _ _ => pts_nil) (fun _ _ _ _ _ => (pe_ix ix_tup (pv 1) (pv 2) (fun _ _ => rfl)))) pa_nil))))
theorem sc_Room_numbered : FnScope N_Room_numbered ["self", "n"] (defScope s_Room_numbered) := ⟨rfl, rfl, rfl, by decide +kernel, rfl, by decide +kernel, by decide +kernel⟩
theorem ok_Room_numbered {f : Addr} {fd : FuncData} (T : Txt K mg g) (F : Fun K "numbered" "Room.numbered" s_Room_numbered f fd) (c_Room_how_many : CalM P w K mg base 1 g.Room "how_many" ["self"] (sp_Room_how_many K g)) (c_joined : Cal P w K mg base 1 "joined" ["a", "b"] (sp_joined K g)) (c_rest : Cal P w K mg base 2 "rest" ["size"] (sp_rest K g)) : FnOk P w K mg base (L2.CX P w) 3 f fd ["self", "n"] (sp_Room_numbered K g) := by
  refine F.okX sc_Room_numbered (fun vs H Q E h => len_Room_numbered K g vs H Q E h) (fun cdv A outer s H vs Q E hr h => ⟨t_Room_numbered K g E, ?_, pure_Room_numbered T.r_Room T.r_Book vs H Q E h⟩)
  have hu := hu_of hr
  have tkE : Takes (cxOf (L2.CX P w) P w K mg base N_Room_numbered "Room.numbered" (defScope s_Room_numbered) f cdv A outer s H E) (wE E) := takes_of rfl rfl rfl rfl
  exact (pss_cons (ps_set (i := 2) sc_Room_numbered.nd rfl (Or.inl rfl) (pe_calM0 (pv 0) T.cl_Room c_Room_how_many (hr.mono (by decide)) (fun σ => passE0 σ)))
    (pss_cons (ps_if (PW.pt (pw_or (pt_cmpR op_lt (pv 1) pe_int (nomark _)) (pw_or1 (pt_cmpR op_ge (pv 1) (pv 2) (nomark _))))) (pss_one (ps_raise rfl tkE (pmk_own PySem.F.excBase_ValueError T.x_NoNumber.ex T.x_NoNumber.gC T.x_NoNumber.kC (raises_own T.x_NoNumber.bC T.x_NoNumber.tC) rfl))) pss_nil)
    (pss_cons (ps_set (i := 3) sc_Room_numbered.nd rfl (Or.inr rfl) (pe_cal c_rest (hr.mono (by decide)) rfl (fun σ => passAt tkE σ) (pa_cons (pe_fld (pv 0) rfl) pa_nil)))
    (pss_cons (ps_for (passes_of rfl) rfl (pi_list (pe_fld (pe_fld (pv 0) rfl) rfl)) (pg_name (i := 4) sc_Room_numbered.nd rfl (Or.inr rfl)) (pss_cons (ps_set (i := 2) sc_Room_numbered.nd rfl (Or.inl rfl) (pe_op op_fdivW (pv 2) (pe_callB call_lenD (by rfl) T.z_len PySem.boot_len (pa_cons (pv 4) pa_nil))))
    (pss_cons (ps_set (i := 5) sc_Room_numbered.nd rfl (Or.inl rfl) (pe_callB cr_sortedPO (by rfl) T.z_sorted (by decide +kernel) (pa_cons (pe_lc (own := [("k", 7)]) (g := gName 7) rfl sc_Room_numbered.nd (pi_list (pe_callTy (call_list_dK rfl) (by rfl) T.z_list (by decide +kernel) (pa_cons (pv 4) pa_nil))) (blkOk_by (own := [("k", 7)]) (N := N_Room_numbered) (sc := defScope s_Room_numbered) (by decide +kernel)) (fun _ _ _ _ _ => pg_name (i := 7) sc_Room_numbered.nd rfl (Or.inl rfl)) (fun _ _ _ _ _ => pts_nil) (fun _ _ _ _ _ => (pe_tup (pa_cons (pe_ix ix_tup (pv 3) (pv 7) (fun _ _ => rfl)) (pa_cons (pe_dget hu (pv 4) (pv 7) (fun _ _ => rfl)) pa_nil))))) pa_nil)))
    (pss_cons (ps_set (i := 6) sc_Room_numbered.nd rfl (Or.inl rfl) (pe_ix ix_tup (pe_ix ix_list (pv 5) (pe_op op_fdivW (pv 1) (pv 2)) (fun _ _ => rfl)) pe_int (fun _ _ => rfl)))
    (pss_cons (ps_set (i := 1) sc_Room_numbered.nd rfl (Or.inl rfl) (pe_op op_modN (pv 1) (pv 2)))
    (pss_one (ps_set (i := 3) sc_Room_numbered.nd rfl (Or.inr rfl) (pe_cal c_joined (hr.mono (by decide)) rfl (fun σ => passE0 σ) (pa_cons (pe_ix ix_list (pe_fld (pe_fld (pv 0) rfl) rfl) (pv 6) (fun _ _ => rfl)) (pa_cons (pv 3) pa_nil))))))))))
    (pss_one (ps_ret (pv 3)))))))
theorem sc_L_bad_k21 : FnScope N_L_bad_k21 ["cell"] (defScope s_L_bad_k21) := ⟨rfl, rfl, rfl, by decide +kernel, rfl, by decide +kernel, by decide +kernel⟩
theorem ok_L_bad_k21 {f : Addr} {fd : FuncData} (T : Txt K mg g) (F : Fun K "_law_bad" "_law_bad" s_L_bad_k21 f fd)  : FnOk P w K mg base (L2.CX P w) 1 f fd ["cell"] (sp_L_bad_k21 K g) := by
  refine F.okX sc_L_bad_k21 (fun vs H Q E h => len_L_bad_k21 K g vs H Q E h) (fun cdv A outer s H vs Q E hr h => ⟨t_L_bad_k21 K g E, ?_, pure_L_bad_k21  vs H Q E h⟩)
  have hu := hu_of hr
  have tkE : Takes (cxOf (L2.CX P w) P w K mg base N_L_bad_k21 "_law_bad" (defScope s_L_bad_k21) f cdv A outer s H E) (wE E) := takes_of rfl rfl rfl rfl
  exact (pss_cons (ps_if (pt_cmpR op_eq (pe_op op_modN (pv 0) pe_int) pe_int (nomark _)) (pss_one (ps_ret (pe_tup pa_nil))) pss_nil)
    (pss_cons (ps_if (pt_cmpR op_eq (pe_op op_modN (pv 0) pe_int) pe_int (nomark _)) (pss_one (ps_ret (pe_tupRg rfl (by rfl) T.z_tuple (prg_1 (by rfl) T.z_range (pe_op op_add pe_int (pe_op op_modN (pe_op op_fdivW (pv 0) pe_int) pe_int)))))) pss_nil)
    (pss_cons (ps_set (i := 1) sc_L_bad_k21.nd rfl (Or.inl rfl) (pe_op op_add pe_int (pe_op op_modN (pe_op op_fdivW (pv 0) pe_int) pe_int)))
    (pss_cons (ps_set (i := 2) sc_L_bad_k21.nd rfl (Or.inl rfl) (pe_listRg rfl (by rfl) T.z_list (prg_1 (by rfl) T.z_range (pv 1))))
    (pss_cons (ps_set (i := 3) sc_L_bad_k21.nd rfl (Or.inl rfl) (pe_op op_modN (pe_op op_fdivW (pv 0) pe_int) (pv 1)))
    (pss_cons (ps_asg (pe_ix ix_list (pe_lst (pa_cons (pv 1) (pa_cons (pe_un un_neg pe_int) (pa_cons (pe_ix ix_list (pv 2) (pe_op op_sub (pv 3) pe_int) (fun _ _ => rfl)) (pa_cons (pe_op op_pow pe_int pe_int) pa_nil))))) (pe_op op_modN (pe_op op_fdivW (pv 0) pe_int) pe_int) (fun _ _ => rfl)) (pg_sub (pv 2) (pv 3) set_list))
    (pss_one (ps_ret (pe_callTy call_tuple_of (by rfl) T.z_tuple (by decide +kernel) (pa_cons (pv 2) pa_nil))))))))))
theorem sc_L_far : FnScope N_L_far ["cell", "size"] (defScope s_L_far) := ⟨rfl, rfl, rfl, by decide +kernel, rfl, by decide +kernel, by decide +kernel⟩
theorem ok_L_far {f : Addr} {fd : FuncData} (T : Txt K mg g) (F : Fun K "_law_far" "_law_far" s_L_far f fd)  : FnOk P w K mg base (L2.CX P w) 1 f fd ["cell", "size"] (sp_L_far K g) := by
  refine F.okX sc_L_far (fun vs H Q E h => len_L_far K g vs H Q E h) (fun cdv A outer s H vs Q E hr h => ⟨t_L_far K g E, ?_, pure_L_far  vs H Q E h⟩)
  have hu := hu_of hr
  have tkE : Takes (cxOf (L2.CX P w) P w K mg base N_L_far "_law_far" (defScope s_L_far) f cdv A outer s H E) (wE E) := takes_of rfl rfl rfl rfl
  exact (pss_cons (ps_set (i := 2) sc_L_far.nd rfl (Or.inl rfl) (pe_listRg rfl (by rfl) T.z_list (prg_1 (by rfl) T.z_range (pv 1))))
    (pss_cons (ps_set (i := 3) sc_L_far.nd rfl (Or.inl rfl) (pe_lst pa_nil))
    (pss_cons (ps_for (passes_of rfl) rfl (pi_range1 (by rfl) T.z_range (pa_cons (pv 1) pa_nil)) (pg_name (i := 4) sc_L_far.nd rfl (Or.inl rfl)) (pss_cons (ps_set (i := 0) sc_L_far.nd rfl (Or.inl rfl) (pe_op op_modN (pe_op op_add (pe_op op_mul (pv 0) pe_int) pe_int) pe_int))
    (pss_one (ps_expr (pe_bm PySem.F.plainAttrs_list PySem.F.slot_list_append PySem.F.type_list_append mt_append (pv 3) (pa_cons (pe_bm PySem.F.plainAttrs_list PySem.F.slot_list_pop PySem.F.type_list_pop mt_popAt (pv 2) (pa_cons (pe_op op_modN (pv 0) (pe_op op_sub (pv 1) (pv 4))) pa_nil)) pa_nil))))))
    (pss_one (ps_ret (pe_callTy call_tuple_of (by rfl) T.z_tuple (by decide +kernel) (pa_cons (pv 3) pa_nil)))))))
theorem sc_Book_note : FnScope N_Book_note ["self", "step", "seating"] (defScope s_Book_note) := ⟨rfl, rfl, rfl, by decide +kernel, rfl, by decide +kernel, by decide +kernel⟩
theorem ok_Book_note {f : Addr} {fd : FuncData} (T : Txt K mg g) (F : Fun K "note" "Book.note" s_Book_note f fd)  : FnOk P w K mg base (L2.CX P w) 1 f fd ["self", "step", "seating"] (sp_Book_note K g) := by
  refine F.okX sc_Book_note (fun vs H Q E h => len_Book_note K g vs H Q E h) (fun cdv A outer s H vs Q E hr h => ⟨t_Book_note K g E, ?_, pure_Book_note T.r_Book vs H Q E h⟩)
  have hu := hu_of hr
  have tkE : Takes (cxOf (L2.CX P w) P w K mg base N_Book_note "Book.note" (defScope s_Book_note) f cdv A outer s H E) (wE E) := takes_of rfl rfl rfl rfl
  exact (pss_cons (ps_expr (pe_bm PySem.F.plainAttrs_list PySem.F.slot_list_append PySem.F.type_list_append mt_append (pe_fld (pv 0) rfl) (pa_cons (pv 1) pa_nil)))
    (pss_cons (ps_expr (pe_bm PySem.F.plainAttrs_list PySem.F.slot_list_append PySem.F.type_list_append mt_append (pe_fld (pv 0) rfl) (pa_cons (pv 2) pa_nil)))
    (pss_one (ps_ret (pe_op op_sub (pe_callB call_len_seq (by rfl) T.z_len PySem.boot_len (pa_cons (pe_fld (pv 0) rfl) pa_nil)) pe_int)))))
theorem sc_turned : FnScope N_turned ["a"] (defScope s_turned) := ⟨rfl, rfl, rfl, by decide +kernel, rfl, by decide +kernel, by decide +kernel⟩
theorem ok_turned {f : Addr} {fd : FuncData} (T : Txt K mg g) (F : Fun K "turned" "turned" s_turned f fd)  : FnOk P w K mg base (L2.CX P w) 1 f fd ["a"] (sp_turned K g) := by
  refine F.okX sc_turned (fun vs H Q E h => len_turned K g vs H Q E h) (fun cdv A outer s H vs Q E hr h => ⟨t_turned K g E, ?_, pure_turned  vs H Q E h⟩)
  have hu := hu_of hr
  have tkE : Takes (cxOf (L2.CX P w) P w K mg base N_turned "turned" (defScope s_turned) f cdv A outer s H E) (wE E) := takes_of rfl rfl rfl rfl
  exact (pss_cons (ps_set (i := 1) sc_turned.nd rfl (Or.inl rfl) (pe_op op_rep (pe_lst (pa_cons pe_int pa_nil)) (pe_callB call_len_seq (by rfl) T.z_len PySem.boot_len (pa_cons (pv 0) pa_nil))))
    (pss_cons (ps_for (passes_of rfl) rfl (pi_range1 (by rfl) T.z_range (pa_cons (pe_callB call_len_seq (by rfl) T.z_len PySem.boot_len (pa_cons (pv 0) pa_nil)) pa_nil)) (pg_name (i := 2) sc_turned.nd rfl (Or.inl rfl)) (pss_one (ps_asg (pv 2) (pg_sub (pv 1) (pe_ix ix_tup (pv 0) (pv 2) (fun _ _ => rfl)) set_list))))
    (pss_one (ps_ret (pe_callTy call_tuple_of (by rfl) T.z_tuple (by decide +kernel) (pa_cons (pv 1) pa_nil))))))
theorem sc_Book_keep : FnScope N_Book_keep ["self", "at", "where", "went"] (defScope s_Book_keep) := ⟨rfl, rfl, rfl, by decide +kernel, rfl, by decide +kernel, by decide +kernel⟩
theorem ok_Book_keep {f : Addr} {fd : FuncData} (T : Txt K mg g) (F : Fun K "keep" "Book.keep" s_Book_keep f fd) (c_Book_note : CalM P w K mg base 1 g.Book "note" ["self", "step", "seating"] (sp_Book_note K g)) (c_joined : Cal P w K mg base 1 "joined" ["a", "b"] (sp_joined K g)) (c_turned : Cal P w K mg base 1 "turned" ["a"] (sp_turned K g)) : FnOk P w K mg base (L2.CX P w) 2 f fd ["self", "at", "where", "went"] (sp_Book_keep K g) := by
  refine F.okX sc_Book_keep (fun vs H Q E h => len_Book_keep K g vs H Q E h) (fun cdv A outer s H vs Q E hr h => ⟨t_Book_keep K g E, ?_, pure_Book_keep T.r_Book vs H Q E h⟩)
  have hu := hu_of hr
  have tkE : Takes (cxOf (L2.CX P w) P w K mg base N_Book_keep "Book.keep" (defScope s_Book_keep) f cdv A outer s H E) (wE E) := takes_of rfl rfl rfl rfl
  exact (pss_cons (ps_set (i := 4) sc_Book_keep.nd rfl (Or.inl rfl) (pe_ix ix_list (pe_fld (pv 0) rfl) (pv 1) (fun _ _ => rfl)))
    (pss_cons (ps_for (passes_of rfl) rfl (pi_list (pv 3)) (pg_name (i := 5) sc_Book_keep.nd rfl (Or.inl rfl)) (pss_one (ps_if (pt_cmpR op_ne (pv 5) pe_int (nomark _)) (pss_cons (ps_set (i := 6) sc_Book_keep.nd rfl (Or.inl rfl) (pe_calM (pv 0) T.cl_Book c_Book_note (hr.mono (by decide)) (fun σ => passE0 σ) (pa_cons (pe_tup (pa_cons pe_str (pa_cons (pv 5) pa_nil))) (pa_cons (pe_cal c_turned (hr.mono (by decide)) rfl (fun σ => passE0 σ) (pa_cons (pe_ix ix_list (pe_fld (pv 0) rfl) (pv 5) (fun _ _ => rfl)) pa_nil)) pa_nil))))
    (pss_cons (ps_set (i := 4) sc_Book_keep.nd rfl (Or.inl rfl) (pe_cal c_joined (hr.mono (by decide)) rfl (fun σ => passE0 σ) (pa_cons (pv 4) (pa_cons (pe_ix ix_list (pe_fld (pv 0) rfl) (pv 6) (fun _ _ => rfl)) pa_nil))))
    (pss_one (ps_set (i := 1) sc_Book_keep.nd rfl (Or.inl rfl) (pe_calM (pv 0) T.cl_Book c_Book_note (hr.mono (by decide)) (fun σ => passE0 σ) (pa_cons (pe_tup (pa_cons pe_str (pa_cons (pv 1) (pa_cons (pv 6) pa_nil)))) (pa_cons (pv 4) pa_nil))))))) pss_nil)))
    (pss_cons (ps_dput hu (pe_ix ix_list (pe_fld (pv 0) rfl) (pv 2) (fun _ _ => rfl)) (pe_ix ix_tup (pv 4) (pv 2) (fun _ _ => rfl)) (pv 1) rfl)
    (pss_cons (ps_expr (pe_bm PySem.F.plainAttrs_list PySem.F.slot_list_append PySem.F.type_list_append mt_append (pe_fld (pv 0) rfl) (pa_cons (pv 1) pa_nil)))
    (pss_one (ps_ret (pv 1)))))))
theorem sc_Book_sifted : FnScope N_Book_sifted ["self", "seating"] (defScope s_Book_sifted) := ⟨rfl, rfl, rfl, by decide +kernel, rfl, by decide +kernel, by decide +kernel⟩
theorem ok_Book_sifted {f : Addr} {fd : FuncData} (T : Txt K mg g) (F : Fun K "sifted" "Book.sifted" s_Book_sifted f fd) (c_joined : Cal P w K mg base 1 "joined" ["a", "b"] (sp_joined K g)) (c_turned : Cal P w K mg base 1 "turned" ["a"] (sp_turned K g)) : FnOk P w K mg base (L2.CX P w) 2 f fd ["self", "seating"] (sp_Book_sifted K g) := by
  refine F.okX sc_Book_sifted (fun vs H Q E h => len_Book_sifted K g vs H Q E h) (fun cdv A outer s H vs Q E hr h => ⟨t_Book_sifted K g E, ?_, pure_Book_sifted T.r_Book vs H Q E h⟩)
  have hu := hu_of hr
  have tkE : Takes (cxOf (L2.CX P w) P w K mg base N_Book_sifted "Book.sifted" (defScope s_Book_sifted) f cdv A outer s H E) (wE E) := takes_of rfl rfl rfl rfl
  exact (pss_cons (ps_set (i := 2) sc_Book_sifted.nd rfl (Or.inl rfl) (pv 1))
    (pss_cons (ps_set (i := 3) sc_Book_sifted.nd rfl (Or.inl rfl) (pe_lst pa_nil))
    (pss_cons (ps_for (passes_of rfl) rfl (pi_range1 (by rfl) T.z_range (pa_cons (pe_fld (pv 0) rfl) pa_nil)) (pg_name (i := 4) sc_Book_sifted.nd rfl (Or.inl rfl)) (pss_cons (ps_set (i := 5) sc_Book_sifted.nd rfl (Or.inl rfl) (pe_dget1 hu (pe_ix ix_list (pe_fld (pv 0) rfl) (pv 4) (fun _ _ => rfl)) (pe_ix ix_tup (pv 2) (pv 4) (fun _ _ => rfl)) ⟨rfl, rfl, rfl, rfl⟩))
    (pss_cons (ps_if (pt_cmpR op_isN (pv 5) pe_non (nomark _)) (pss_one (ps_ret (pe_tup (pa_cons (pv 4) (pa_cons (pv 2) (pa_cons (pv 3) pa_nil)))))) pss_nil)
    (pss_cons (ps_expr (pe_bm PySem.F.plainAttrs_list PySem.F.slot_list_append PySem.F.type_list_append mt_append (pv 3) (pa_cons (pv 5) pa_nil)))
    (pss_one (ps_set (i := 2) sc_Book_sifted.nd rfl (Or.inl rfl) (pe_cal c_joined (hr.mono (by decide)) rfl (fun σ => passE0 σ) (pa_cons (pv 2) (pa_cons (pe_cal c_turned (hr.mono (by decide)) rfl (fun σ => passE0 σ) (pa_cons (pe_ix ix_list (pe_fld (pv 0) rfl) (pv 5) (fun _ _ => rfl)) pa_nil)) pa_nil)))))))))
    (pss_one (ps_ret (pe_tup (pa_cons (pe_fld (pv 0) rfl) (pa_cons (pv 2) (pa_cons (pv 3) pa_nil)))))))))
theorem sc_Book_close : FnScope N_Book_close ["self", "first"] (defScope s_Book_close) := ⟨rfl, rfl, rfl, by decide +kernel, rfl, by decide +kernel, by decide +kernel⟩
theorem ok_Book_close {f : Addr} {fd : FuncData} (T : Txt K mg g) (F : Fun K "close" "Book.close" s_Book_close f fd) (c_Book_keep : CalM P w K mg base 2 g.Book "keep" ["self", "at", "where", "went"] (sp_Book_keep K g)) (c_Book_note : CalM P w K mg base 1 g.Book "note" ["self", "step", "seating"] (sp_Book_note K g)) (c_Book_sifted : CalM P w K mg base 2 g.Book "sifted" ["self", "seating"] (sp_Book_sifted K g)) (c_joined : Cal P w K mg base 1 "joined" ["a", "b"] (sp_joined K g)) : FnOk P w K mg base (L2.CX P w) 3 f fd ["self", "first"] (sp_Book_close K g) := by
  refine F.okX sc_Book_close (fun vs H Q E h => len_Book_close K g vs H Q E h) (fun cdv A outer s H vs Q E hr h => ⟨t_Book_close K g E, ?_, pure_Book_close T.r_Book vs H Q E h⟩)
  have hu := hu_of hr
  have tkE : Takes (cxOf (L2.CX P w) P w K mg base N_Book_close "Book.close" (defScope s_Book_close) f cdv A outer s H E) (wE E) := takes_of rfl rfl rfl rfl
  exact (pss_cons (ps_set (i := 2) sc_Book_close.nd rfl (Or.inl rfl) pe_bl)
    (pss_cons (ps_set (i := 3) sc_Book_close.nd rfl (Or.inl rfl) (pe_lst (pa_cons (pe_tup (pa_cons (pv 1) (pa_cons pe_int pa_nil))) pa_nil)))
    (pss_cons (ps_while (passes_of rfl) (pt_cmpR op_gt (pe_callB call_len_seq (by rfl) T.z_len PySem.boot_len (pa_cons (pv 3) pa_nil)) pe_int (nomark _)) (pss_cons (ps_set (i := 4) sc_Book_close.nd rfl (Or.inl rfl) (pe_bm0 PySem.F.plainAttrs_list PySem.F.slot_list_pop PySem.F.type_list_pop mt_pop (pv 3)))
    (pss_cons (ps_set (i := 5) sc_Book_close.nd rfl (Or.inl rfl) (pe_cal c_joined (hr.mono (by decide)) rfl (fun σ => passE0 σ) (pa_cons (pe_ix ix_list (pe_fld (pv 0) rfl) (pe_ix ix_tup (pv 4) pe_int (fun _ _ => rfl)) (fun _ _ => rfl)) (pa_cons (pe_ix ix_list (pe_fld (pv 0) rfl) (pe_ix ix_tup (pv 4) pe_int (fun _ _ => rfl)) (fun _ _ => rfl)) pa_nil))))
    (pss_cons (ps_set (i := 6) sc_Book_close.nd rfl (Or.inl rfl) (pe_calM (pv 0) T.cl_Book c_Book_sifted (hr.mono (by decide)) (fun σ => passE0 σ) (pa_cons (pv 5) pa_nil)))
    (pss_one (ps_if (pt_cmpR op_lt (pe_ix ix_tup (pv 6) pe_int (fun _ _ => rfl)) (pe_fld (pv 0) rfl) (nomark _)) (pss_cons (ps_set (i := 7) sc_Book_close.nd rfl (Or.inl rfl) (pe_ix ix_tup (pv 4) pe_int (fun _ _ => rfl)))
    (pss_cons (ps_if (pt_cmpR op_ne (pe_ix ix_tup (pv 4) pe_int (fun _ _ => rfl)) pe_int (nomark _)) (pss_one (ps_set (i := 7) sc_Book_close.nd rfl (Or.inl rfl) (pe_calM (pv 0) T.cl_Book c_Book_note (hr.mono (by decide)) (fun σ => passE0 σ) (pa_cons (pe_tup (pa_cons pe_str (pa_cons (pe_ix ix_tup (pv 4) pe_int (fun _ _ => rfl)) (pa_cons (pe_ix ix_tup (pv 4) pe_int (fun _ _ => rfl)) pa_nil)))) (pa_cons (pv 5) pa_nil))))) pss_nil)
    (pss_cons (ps_set (i := 8) sc_Book_close.nd rfl (Or.inl rfl) (pe_calM (pv 0) T.cl_Book c_Book_keep (hr.mono (by decide)) (fun σ => passE0 σ) (pa_cons (pv 7) (pa_cons (pe_ix ix_tup (pv 6) pe_int (fun _ _ => rfl)) (pa_cons (pe_ix ix_tup (pv 6) pe_int (fun _ _ => rfl)) pa_nil)))))
    (pss_cons (ps_set (i := 2) sc_Book_close.nd rfl (Or.inl rfl) pe_bl)
    (pss_one (ps_for (passes_of rfl) rfl (pi_list (pe_fld (pv 0) rfl)) (pg_name (i := 9) sc_Book_close.nd rfl (Or.inl rfl)) (pss_cons (ps_expr (pe_bm PySem.F.plainAttrs_list PySem.F.slot_list_append PySem.F.type_list_append mt_append (pv 3) (pa_cons (pe_tup (pa_cons (pv 8) (pa_cons (pv 9) pa_nil))) pa_nil)))
    (pss_one (ps_expr (pe_bm PySem.F.plainAttrs_list PySem.F.slot_list_append PySem.F.type_list_append mt_append (pv 3) (pa_cons (pe_tup (pa_cons (pv 9) (pa_cons (pv 8) pa_nil))) pa_nil))))))))))) pss_nil))))))
    (pss_one (ps_ret (pv 2))))))
theorem sc_is_seating : FnScope N_is_seating ["row"] (defScope s_is_seating) := ⟨rfl, rfl, rfl, by decide +kernel, rfl, by decide +kernel, by decide +kernel⟩
theorem ok_is_seating {f : Addr} {fd : FuncData} (T : Txt K mg g) (F : Fun K "is_seating" "is_seating" s_is_seating f fd)  : FnOk P w K mg base (L2.CX P w) 1 f fd ["row"] (sp_is_seating K g) := by
  refine F.okX sc_is_seating (fun vs H Q E h => len_is_seating K g vs H Q E h) (fun cdv A outer s H vs Q E hr h => ⟨t_is_seating K g E, ?_, pure_is_seating  vs H Q E h⟩)
  have hu := hu_of hr
  have tkE : Takes (cxOf (L2.CX P w) P w K mg base N_is_seating "is_seating" (defScope s_is_seating) f cdv A outer s H E) (wE E) := takes_of rfl rfl rfl rfl
  exact (pss_cons (ps_if (PW.pt (pw_or (pt_cmpR op_lt (pe_callB call_len_seq (by rfl) T.z_len PySem.boot_len (pa_cons (pv 0) pa_nil)) pe_int (nomark _)) (pw_or1 (pt_cmpR op_gt (pe_callB call_len_seq (by rfl) T.z_len PySem.boot_len (pa_cons (pv 0) pa_nil)) (pe_globI T.c_MOST) (nomark _))))) (pss_one (ps_ret pe_bl)) pss_nil)
    (pss_cons (ps_for (passes_of rfl) rfl (pi_range1 (by rfl) T.z_range (pa_cons (pe_callB call_len_seq (by rfl) T.z_len PySem.boot_len (pa_cons (pv 0) pa_nil)) pa_nil)) (pg_name (i := 1) sc_is_seating.nd rfl (Or.inl rfl)) (pss_one (ps_if (pt_cmpR op_notIn_seq (pv 1) (pv 0) (by rfl)) (pss_one (ps_ret pe_bl)) pss_nil)))
    (pss_one (ps_ret pe_bl))))
theorem sc_ask_seating : FnScope N_ask_seating ["a"] (defScope s_ask_seating) := ⟨rfl, rfl, rfl, by decide +kernel, rfl, by decide +kernel, by decide +kernel⟩
theorem ok_ask_seating {f : Addr} {fd : FuncData} (T : Txt K mg g) (F : Fun K "ask_seating" "ask_seating" s_ask_seating f fd) (c_is_seating : Cal P w K mg base 1 "is_seating" ["row"] (sp_is_seating K g)) : FnOk P w K mg base (L2.CX P w) 2 f fd ["a"] (sp_ask_seating K g) := by
  refine F.okX sc_ask_seating (fun vs H Q E h => len_ask_seating K g vs H Q E h) (fun cdv A outer s H vs Q E hr h => ⟨t_ask_seating K g E, ?_, pure_ask_seating  vs H Q E h⟩)
  have hu := hu_of hr
  have tkE : Takes (cxOf (L2.CX P w) P w K mg base N_ask_seating "ask_seating" (defScope s_ask_seating) f cdv A outer s H E) (wE E) := takes_of rfl rfl rfl rfl
  exact (pss_one (ps_if (pt_not (pt_val (pe_cal c_is_seating (hr.mono (by decide)) rfl (fun σ => passE0 σ) (pa_cons (pv 0) pa_nil)))) (pss_one (ps_raise rfl tkE (pmk_own PySem.F.excBase_ValueError T.x_NoSeating.ex T.x_NoSeating.gC T.x_NoSeating.kC (raises_own T.x_NoSeating.bC T.x_NoSeating.tC) rfl))) pss_nil))
theorem sc_Room_ask : FnScope N_Room_ask ["self", "a"] (defScope s_Room_ask) := ⟨rfl, rfl, rfl, by decide +kernel, rfl, by decide +kernel, by decide +kernel⟩
theorem ok_Room_ask {f : Addr} {fd : FuncData} (T : Txt K mg g) (F : Fun K "ask" "Room.ask" s_Room_ask f fd) (c_ask_seating : Cal P w K mg base 2 "ask_seating" ["a"] (sp_ask_seating K g)) : FnOk P w K mg base (L2.CX P w) 3 f fd ["self", "a"] (sp_Room_ask K g) := by
  refine F.okX sc_Room_ask (fun vs H Q E h => len_Room_ask K g vs H Q E h) (fun cdv A outer s H vs Q E hr h => ⟨t_Room_ask K g E, ?_, pure_Room_ask T.r_Room vs H Q E h⟩)
  have hu := hu_of hr
  have tkE : Takes (cxOf (L2.CX P w) P w K mg base N_Room_ask "Room.ask" (defScope s_Room_ask) f cdv A outer s H E) (wE E) := takes_of rfl rfl rfl rfl
  exact (pss_cons (ps_expr (pe_cal c_ask_seating (hr.mono (by decide)) rfl (fun σ => passAt tkE σ) (pa_cons (pv 1) pa_nil)))
    (pss_one (ps_if (pt_cmpR op_ne (pe_callB call_len_seq (by rfl) T.z_len PySem.boot_len (pa_cons (pv 1) pa_nil)) (pe_fld (pv 0) rfl) (nomark _)) (pss_one (ps_raise rfl tkE (pmk_own PySem.F.excBase_ValueError T.x_OtherSize.ex T.x_OtherSize.gC T.x_OtherSize.kC (raises_own T.x_OtherSize.bC T.x_OtherSize.tC) rfl))) pss_nil)))
theorem sc_Room_put_move : FnScope N_Room_put_move ["self", "move"] (defScope s_Room_put_move) := ⟨rfl, rfl, rfl, by decide +kernel, rfl, by decide +kernel, by decide +kernel⟩
theorem ok_Room_put_move {f : Addr} {fd : FuncData} (T : Txt K mg g) (F : Fun K "put_move" "Room.put_move" s_Room_put_move f fd) (c_Book_close : CalM P w K mg base 3 g.Book "close" ["self", "first"] (sp_Book_close K g)) (c_Book_note : CalM P w K mg base 1 g.Book "note" ["self", "step", "seating"] (sp_Book_note K g)) (c_Room_ask : CalM P w K mg base 3 g.Room "ask" ["self", "a"] (sp_Room_ask K g)) : FnOk P w K mg base (L2.CX P w) 4 f fd ["self", "move"] (sp_Room_put_move K g) := by
  refine F.okX sc_Room_put_move (fun vs H Q E h => len_Room_put_move K g vs H Q E h) (fun cdv A outer s H vs Q E hr h => ⟨t_Room_put_move K g E, ?_, pure_Room_put_move T.r_Room vs H Q E h⟩)
  have hu := hu_of hr
  have tkE : Takes (cxOf (L2.CX P w) P w K mg base N_Room_put_move "Room.put_move" (defScope s_Room_put_move) f cdv A outer s H E) (wE E) := takes_of rfl rfl rfl rfl
  exact (pss_cons (ps_expr (pe_calM (pv 0) T.cl_Room c_Room_ask (hr.mono (by decide)) (fun σ => passAt tkE σ) (pa_cons (pv 1) pa_nil)))
    (pss_cons (ps_if (pt_cmpR op_eq (pe_callB call_len_seq (by rfl) T.z_len PySem.boot_len (pa_cons (pe_fld (pv 0) rfl) pa_nil)) (pe_globI T.c_MANY) (nomark _)) (pss_one (ps_raise rfl tkE (pmk_own PySem.F.excBase_ValueError T.x_TooMany.ex T.x_TooMany.gC T.x_TooMany.kC (raises_own T.x_TooMany.bC T.x_TooMany.tC) rfl))) pss_nil)
    (pss_cons (ps_set (i := 2) sc_Room_put_move.nd rfl (Or.inl rfl) (pe_calM (pe_fld (pv 0) rfl) T.cl_Book c_Book_note (hr.mono (by decide)) (fun σ => passE0 σ) (pa_cons (pe_tup (pa_cons pe_str (pa_cons (pe_callB call_len_seq (by rfl) T.z_len PySem.boot_len (pa_cons (pe_fld (pv 0) rfl) pa_nil)) pa_nil))) (pa_cons (pv 1) pa_nil))))
    (pss_cons (ps_expr (pe_bm PySem.F.plainAttrs_list PySem.F.slot_list_append PySem.F.type_list_append mt_append (pe_fld (pv 0) rfl) (pa_cons (pv 1) pa_nil)))
    (pss_one (ps_ret (pe_calM (pe_fld (pv 0) rfl) T.cl_Book c_Book_close (hr.mono (by decide)) (fun σ => passE0 σ) (pa_cons (pv 2) pa_nil))))))))
theorem sc_L_full_k21 : FnScope N_L_full_k21 ["size"] (defScope s_L_full_k21) := ⟨rfl, rfl, rfl, by decide +kernel, rfl, by decide +kernel, by decide +kernel⟩
theorem ok_L_full_k21 {f : Addr} {fd : FuncData} (T : Txt K mg g) (F : Fun K "_law_full" "_law_full" s_L_full_k21 f fd) (c_Room_init : CalI P w K mg base 5 g.Room ["self", "size"] (sp_Room_init K g)) (c_Room_put_move : CalM P w K mg base 4 g.Room "put_move" ["self", "move"] (sp_Room_put_move K g)) (c_rest : Cal P w K mg base 2 "rest" ["size"] (sp_rest K g)) : FnOk P w K mg base (L2.CX P w) 7 f fd ["size"] (sp_L_full_k21 K g) := by
  refine F.okX sc_L_full_k21 (fun vs H Q E h => len_L_full_k21 K g vs H Q E h) (fun cdv A outer s H vs Q E hr h => ⟨t_L_full_k21 K g E, ?_, pure_L_full_k21  vs H Q E h⟩)
  have hu := hu_of hr
  have tkE : Takes (cxOf (L2.CX P w) P w K mg base N_L_full_k21 "_law_full" (defScope s_L_full_k21) f cdv A outer s H E) (wE E) := takes_of rfl rfl rfl rfl
  exact (pss_cons (ps_set (i := 1) sc_L_full_k21.nd rfl (Or.inl rfl) (pe_mk c_Room_init (hr.mono (by decide)) rfl T.g_Room (fun σ => passAt tkE σ) (pa_cons (pv 0) pa_nil)))
    (pss_cons (ps_for (passes_of rfl) rfl (pi_range1 (by rfl) T.z_range (pa_cons pe_int pa_nil)) (pg_name (i := 2) sc_L_full_k21.nd rfl (Or.inl rfl)) (pss_one (ps_expr (pe_calM (pv 1) T.cl_Room c_Room_put_move (hr.mono (by decide)) (fun σ => passAt tkE σ) (pa_cons (pe_cal c_rest (hr.mono (by decide)) rfl (fun σ => passAt tkE σ) (pa_cons (pv 0) pa_nil)) pa_nil)))))
    (pss_one (ps_expr (pe_calM (pv 1) T.cl_Room c_Room_put_move (hr.mono (by decide)) (fun σ => passAt tkE σ) (pa_cons (pe_cal c_rest (hr.mono (by decide)) rfl (fun σ => passAt tkE σ) (pa_cons (pv 0) pa_nil)) pa_nil))))))
theorem sc_Room_table : FnScope N_Room_table ["self"] (defScope s_Room_table) := ⟨rfl, rfl, rfl, by decide +kernel, rfl, by decide +kernel, by decide +kernel⟩
theorem ok_Room_table {f : Addr} {fd : FuncData} (T : Txt K mg g) (F : Fun K "table" "Room.table" s_Room_table f fd)  : FnOk P w K mg base (L2.CX P w) 1 f fd ["self"] (sp_Room_table K g) := by
  refine F.okX sc_Room_table (fun vs H Q E h => len_Room_table K g vs H Q E h) (fun cdv A outer s H vs Q E hr h => ⟨t_Room_table K g E, ?_, pure_Room_table T.r_Room T.r_Book vs H Q E h⟩)
  have hu := hu_of hr
  have tkE : Takes (cxOf (L2.CX P w) P w K mg base N_Room_table "Room.table" (defScope s_Room_table) f cdv A outer s H E) (wE E) := takes_of rfl rfl rfl rfl
  exact (pss_cons (ps_set (i := 1) sc_Room_table.nd rfl (Or.inl rfl) (pe_lst pa_nil))
    (pss_cons (ps_for (passes_of rfl) rfl (pi_list (pe_fld (pe_fld (pv 0) rfl) rfl)) (pg_name (i := 2) sc_Room_table.nd rfl (Or.inr rfl)) (pss_one (ps_expr (pe_bm PySem.F.plainAttrs_list PySem.F.slot_list_append PySem.F.type_list_append mt_append (pv 1) (pa_cons (pe_lc (own := [("k", 3)]) (g := gName 3) rfl sc_Room_table.nd (pi_list (pe_callB cr_sortedI (by rfl) T.z_sorted (by decide +kernel) (pa_cons (pe_callTy (call_list_dK rfl) (by rfl) T.z_list (by decide +kernel) (pa_cons (pv 2) pa_nil)) pa_nil))) (blkOk_by (own := [("k", 3)]) (N := N_Room_table) (sc := defScope s_Room_table) (by decide +kernel)) (fun _ _ _ _ _ => pg_name (i := 3) sc_Room_table.nd rfl (Or.inl rfl)) (fun _ _ _ _ _ => pts_nil) (fun _ _ _ _ _ => (pe_ix ix_list (pe_fld (pe_fld (pv 0) rfl) rfl) (pe_dget hu (pv 2) (pv 3) (fun _ _ => rfl)) (fun _ _ => rfl)))) pa_nil)))))
    (pss_one (ps_ret (pv 1)))))
theorem sc_ask_seat : FnScope N_ask_seat ["room", "seat"] (defScope s_ask_seat) := ⟨rfl, rfl, rfl, by decide +kernel, rfl, by decide +kernel, by decide +kernel⟩
theorem ok_ask_seat {f : Addr} {fd : FuncData} (T : Txt K mg g) (F : Fun K "ask_seat" "ask_seat" s_ask_seat f fd)  : FnOk P w K mg base (L2.CX P w) 1 f fd ["room", "seat"] (sp_ask_seat K g) := by
  refine F.okX sc_ask_seat (fun vs H Q E h => len_ask_seat K g vs H Q E h) (fun cdv A outer s H vs Q E hr h => ⟨t_ask_seat K g E, ?_, pure_ask_seat T.r_Room vs H Q E h⟩)
  have hu := hu_of hr
  have tkE : Takes (cxOf (L2.CX P w) P w K mg base N_ask_seat "ask_seat" (defScope s_ask_seat) f cdv A outer s H E) (wE E) := takes_of rfl rfl rfl rfl
  exact (pss_one (ps_if (PW.pt (pw_or (pt_cmpR op_lt (pv 1) pe_int (nomark _)) (pw_or1 (pt_cmpR op_ge (pv 1) (pe_fld (pv 0) rfl) (nomark _))))) (pss_one (ps_raise rfl tkE (pmk_own PySem.F.excBase_ValueError T.x_NoSeat.ex T.x_NoSeat.gC T.x_NoSeat.kC (raises_own T.x_NoSeat.bC T.x_NoSeat.tC) rfl))) pss_nil))
theorem sc_holding : FnScope N_holding ["room", "seats"] (defScope s_holding) := ⟨rfl, rfl, rfl, by decide +kernel, rfl, by decide +kernel, by decide +kernel⟩
theorem ok_holding {f : Addr} {fd : FuncData} (T : Txt K mg g) (F : Fun K "holding" "holding" s_holding f fd) (c_Room_init : CalI P w K mg base 5 g.Room ["self", "size"] (sp_Room_init K g)) (c_Room_put_move : CalM P w K mg base 4 g.Room "put_move" ["self", "move"] (sp_Room_put_move K g)) (c_Room_table : CalM P w K mg base 1 g.Room "table" ["self"] (sp_Room_table K g)) (c_ask_seat : Cal P w K mg base 1 "ask_seat" ["room", "seat"] (sp_ask_seat K g)) (c_joined : Cal P w K mg base 1 "joined" ["a", "b"] (sp_joined K g)) (c_rest : Cal P w K mg base 2 "rest" ["size"] (sp_rest K g)) (c_turned : Cal P w K mg base 1 "turned" ["a"] (sp_turned K g)) : FnOk P w K mg base (L2.CX P w) 7 f fd ["room", "seats"] (sp_holding K g) := by
  refine F.okX sc_holding (fun vs H Q E h => len_holding K g vs H Q E h) (fun cdv A outer s H vs Q E hr h => ⟨t_holding K g E, ?_, pure_holding T.r_Room vs H Q E h⟩)
  have hu := hu_of hr
  have tkE : Takes (cxOf (L2.CX P w) P w K mg base N_holding "holding" (defScope s_holding) f cdv A outer s H E) (wE E) := takes_of rfl rfl rfl rfl
  exact (pss_cons (ps_for (passes_of rfl) rfl (pi_list (pv 1)) (pg_name (i := 2) sc_holding.nd rfl (Or.inl rfl)) (pss_one (ps_expr (pe_cal c_ask_seat (hr.mono (by decide)) rfl (fun σ => passAt tkE σ) (pa_cons (pv 0) (pa_cons (pv 2) pa_nil))))))
    (pss_cons (ps_set (i := 3) sc_holding.nd rfl (Or.inr rfl) (pe_sortSet rfl (by rfl) T.z_sorted (by rfl) T.z_set (pv 1)))
    (pss_cons (ps_set (i := 4) sc_holding.nd rfl (Or.inl rfl) (pe_callTy call_tuple_of (by rfl) T.z_tuple (by decide +kernel) (pa_cons (pe_op op_cat (pv 3) (pe_lc (own := [("k", 5)]) (g := gName 5) rfl sc_holding.nd (pi_range1 (by rfl) T.z_range (pa_cons (pe_fld (pv 0) rfl) pa_nil)) (blkOk_by (own := [("k", 5)]) (N := N_holding) (sc := defScope s_holding) (by decide +kernel)) (fun _ _ _ _ _ => pg_name (i := 5) sc_holding.nd rfl (Or.inl rfl)) (fun _ _ _ _ _ => (pts_one (pt_cmpR op_notIn_seq (pv 5) (pv 3) (by rfl)))) (fun _ _ _ _ _ => (pv 5)))) pa_nil)))
    (pss_cons (ps_set (i := 6) sc_holding.nd rfl (Or.inl rfl) (pe_cal c_turned (hr.mono (by decide)) rfl (fun σ => passE0 σ) (pa_cons (pv 4) pa_nil)))
    (pss_cons (ps_set (i := 7) sc_holding.nd rfl (Or.inl rfl) (pe_mk c_Room_init (hr.mono (by decide)) rfl T.g_Room (fun σ => passAt tkE σ) (pa_cons (pe_fld (pv 0) rfl) pa_nil)))
    (pss_cons (ps_for (passes_of rfl) rfl (pi_list (pe_calM0 (pv 0) T.cl_Room c_Room_table (hr.mono (by decide)) (fun σ => passE0 σ))) (pg_name (i := 8) sc_holding.nd rfl (Or.inl rfl)) (pss_one (ps_for (passes_of rfl) rfl (pi_list (pv 8)) (pg_name (i := 9) sc_holding.nd rfl (Or.inl rfl)) (pss_one (ps_expr (pe_calM (pv 7) T.cl_Room c_Room_put_move (hr.mono (by decide)) (fun σ => passAt tkE σ) (pa_cons (pe_cal c_joined (hr.mono (by decide)) rfl (fun σ => passE0 σ) (pa_cons (pe_cal c_joined (hr.mono (by decide)) rfl (fun σ => passE0 σ) (pa_cons (pv 4) (pa_cons (pv 9) pa_nil))) (pa_cons (pv 6) pa_nil))) pa_nil)))))))
    (pss_cons (ps_set (i := 10) sc_holding.nd rfl (Or.inl rfl) (pe_mk c_Room_init (hr.mono (by decide)) rfl T.g_Room (fun σ => passAt tkE σ) (pa_cons (pe_fld (pv 0) rfl) pa_nil)))
    (pss_cons (ps_set (i := 11) sc_holding.nd rfl (Or.inl rfl) (pe_calM0 (pv 7) T.cl_Room c_Room_table (hr.mono (by decide)) (fun σ => passE0 σ)))
    (pss_cons (ps_for (passes_of rfl) rfl (pi_range2 (by rfl) T.z_range (pa_cons (pe_callB call_len_seq (by rfl) T.z_len PySem.boot_len (pa_cons (pv 3) pa_nil)) (pa_cons (pe_fld (pv 0) rfl) pa_nil))) (pg_name (i := 5) sc_holding.nd rfl (Or.inl rfl)) (pss_one (ps_for (passes_of rfl) rfl (pi_list (pe_ix ix_list (pv 11) (pv 5) (fun _ _ => rfl))) (pg_name (i := 9) sc_holding.nd rfl (Or.inl rfl)) (pss_one (ps_if (pt_cmpR (op_neD hr.units) (pv 9) (pe_cal c_rest (hr.mono (by decide)) rfl (fun σ => passAt tkE σ) (pa_cons (pe_fld (pv 0) rfl) pa_nil)) (nomark _)) (pss_one (ps_expr (pe_calM (pv 10) T.cl_Room c_Room_put_move (hr.mono (by decide)) (fun σ => passAt tkE σ) (pa_cons (pe_cal c_joined (hr.mono (by decide)) rfl (fun σ => passE0 σ) (pa_cons (pe_cal c_joined (hr.mono (by decide)) rfl (fun σ => passE0 σ) (pa_cons (pv 6) (pa_cons (pv 9) pa_nil))) (pa_cons (pv 4) pa_nil))) pa_nil)))) pss_nil)))))
    (pss_one (ps_ret (pv 10))))))))))))
theorem sc_Room_moves : FnScope N_Room_moves ["self"] (defScope s_Room_moves) := ⟨rfl, rfl, rfl, by decide +kernel, rfl, by decide +kernel, by decide +kernel⟩
theorem ok_Room_moves {f : Addr} {fd : FuncData} (T : Txt K mg g) (F : Fun K "moves" "Room.moves" s_Room_moves f fd)  : FnOk P w K mg base (L2.CX P w) 1 f fd ["self"] (sp_Room_moves K g) := by
  refine F.okX sc_Room_moves (fun vs H Q E h => len_Room_moves K g vs H Q E h) (fun cdv A outer s H vs Q E hr h => ⟨t_Room_moves K g E, ?_, pure_Room_moves T.r_Room vs H Q E h⟩)
  have hu := hu_of hr
  have tkE : Takes (cxOf (L2.CX P w) P w K mg base N_Room_moves "Room.moves" (defScope s_Room_moves) f cdv A outer s H E) (wE E) := takes_of rfl rfl rfl rfl
  exact (pss_one (ps_ret (pe_callTy call_list_of (by rfl) T.z_list (by decide +kernel) (pa_cons (pe_fld (pv 0) rfl) pa_nil))))
theorem sc_one_part : FnScope N_one_part ["lead", "a", "b"] (defScope s_one_part) := ⟨rfl, rfl, rfl, by decide +kernel, rfl, by decide +kernel, by decide +kernel⟩
theorem ok_one_part {f : Addr} {fd : FuncData} (T : Txt K mg g) (F : Fun K "one_part" "one_part" s_one_part f fd)  : FnOk P w K mg base (L2.CX P w) 1 f fd ["lead", "a", "b"] (sp_one_part K g) := by
  refine F.okX sc_one_part (fun vs H Q E h => len_one_part K g vs H Q E h) (fun cdv A outer s H vs Q E hr h => ⟨t_one_part K g E, ?_, pure_one_part  vs H Q E h⟩)
  have hu := hu_of hr
  have tkE : Takes (cxOf (L2.CX P w) P w K mg base N_one_part "one_part" (defScope s_one_part) f cdv A outer s H E) (wE E) := takes_of rfl rfl rfl rfl
  exact (pss_cons (ps_set (i := 3) sc_one_part.nd rfl (Or.inr rfl) (pe_callB (call_min2 rfl) (by rfl) T.z_min (by decide +kernel) (pa_cons (pe_ix ix_list (pv 0) (pv 1) (fun _ _ => rfl)) (pa_cons (pe_ix ix_list (pv 0) (pv 2) (fun _ _ => rfl)) pa_nil))))
    (pss_cons (ps_set (i := 4) sc_one_part.nd rfl (Or.inr rfl) (pe_callB (call_max2 rfl) (by rfl) T.z_max (by decide +kernel) (pa_cons (pe_ix ix_list (pv 0) (pv 1) (fun _ _ => rfl)) (pa_cons (pe_ix ix_list (pv 0) (pv 2) (fun _ _ => rfl)) pa_nil))))
    (pss_one (ps_ret (pe_lc (own := [("x", 5)]) (g := gName 5) rfl sc_one_part.nd (pi_list (pv 0)) (blkOk_by (own := [("x", 5)]) (N := N_one_part) (sc := defScope s_one_part) (by decide +kernel)) (fun _ _ _ _ _ => pg_name (i := 5) sc_one_part.nd rfl (Or.inl rfl)) (fun _ _ _ _ _ => pts_nil) (fun _ _ _ _ _ => (pe_ifExp (pt_cmpR op_eq (pv 5) (pv 4) (nomark _)) (pv 3) (pv 5))))))))
theorem sc_parting : FnScope N_parting ["room", "one", "other"] (defScope s_parting) := ⟨rfl, rfl, rfl, by decide +kernel, rfl, by decide +kernel, by decide +kernel⟩
theorem ok_parting {f : Addr} {fd : FuncData} (T : Txt K mg g) (F : Fun K "parting" "parting" s_parting f fd) (c_Room_moves : CalM P w K mg base 1 g.Room "moves" ["self"] (sp_Room_moves K g)) (c_ask_seat : Cal P w K mg base 1 "ask_seat" ["room", "seat"] (sp_ask_seat K g)) (c_one_part : Cal P w K mg base 1 "one_part" ["lead", "a", "b"] (sp_one_part K g)) : FnOk P w K mg base (L2.CX P w) 2 f fd ["room", "one", "other"] (sp_parting K g) := by
  refine F.okX sc_parting (fun vs H Q E h => len_parting K g vs H Q E h) (fun cdv A outer s H vs Q E hr h => ⟨t_parting K g E, ?_, pure_parting T.r_Room vs H Q E h⟩)
  have hu := hu_of hr
  have tkE : Takes (cxOf (L2.CX P w) P w K mg base N_parting "parting" (defScope s_parting) f cdv A outer s H E) (wE E) := takes_of rfl rfl rfl rfl
  exact (pss_cons (ps_expr (pe_cal c_ask_seat (hr.mono (by decide)) rfl (fun σ => passAt tkE σ) (pa_cons (pv 0) (pa_cons (pv 1) pa_nil))))
    (pss_cons (ps_expr (pe_cal c_ask_seat (hr.mono (by decide)) rfl (fun σ => passAt tkE σ) (pa_cons (pv 0) (pa_cons (pv 2) pa_nil))))
    (pss_cons (ps_set (i := 3) sc_parting.nd rfl (Or.inl rfl) (pe_calM0 (pv 0) T.cl_Room c_Room_moves (hr.mono (by decide)) (fun σ => passE0 σ)))
    (pss_cons (ps_set (i := 4) sc_parting.nd rfl (Or.inr rfl) (pe_cal c_one_part (hr.mono (by decide)) rfl (fun σ => passE0 σ) (pa_cons (pe_listRg rfl (by rfl) T.z_list (prg_1 (by rfl) T.z_range (pe_fld (pv 0) rfl))) (pa_cons (pv 1) (pa_cons (pv 2) pa_nil)))))
    (pss_cons (ps_set (i := 5) sc_parting.nd rfl (Or.inl rfl) pe_bl)
    (pss_cons (ps_while (passes_of rfl) (pt_val (pv 5)) (pss_cons (ps_set (i := 5) sc_parting.nd rfl (Or.inl rfl) pe_bl)
    (pss_one (ps_for (passes_of rfl) rfl (pi_list (pv 3)) (pg_name (i := 6) sc_parting.nd rfl (Or.inl rfl)) (pss_one (ps_for (passes_of rfl) rfl (pi_range1 (by rfl) T.z_range (pa_cons (pe_fld (pv 0) rfl) pa_nil)) (pg_name (i := 7) sc_parting.nd rfl (Or.inr rfl)) (pss_one (ps_if (pt_cmpR op_ne (pe_ix ix_list (pv 4) (pe_ix ix_tup (pv 6) (pv 7) (fun _ _ => rfl)) (fun _ _ => rfl)) (pe_ix ix_list (pv 4) (pe_ix ix_tup (pv 6) (pe_ix ix_list (pv 4) (pv 7) (fun _ _ => rfl)) (fun _ _ => rfl)) (fun _ _ => rfl)) (nomark _)) (pss_cons (ps_set (i := 4) sc_parting.nd rfl (Or.inr rfl) (pe_cal c_one_part (hr.mono (by decide)) rfl (fun σ => passE0 σ) (pa_cons (pv 4) (pa_cons (pe_ix ix_tup (pv 6) (pv 7) (fun _ _ => rfl)) (pa_cons (pe_ix ix_tup (pv 6) (pe_ix ix_list (pv 4) (pv 7) (fun _ _ => rfl)) (fun _ _ => rfl)) pa_nil)))))
    (pss_one (ps_set (i := 5) sc_parting.nd rfl (Or.inl rfl) pe_bl))) pss_nil))))))))
    (pss_cons (ps_set (i := 8) sc_parting.nd rfl (Or.inl rfl) (pe_lst pa_nil))
    (pss_cons (ps_for (passes_of rfl) rfl (pi_range1 (by rfl) T.z_range (pa_cons (pe_fld (pv 0) rfl) pa_nil)) (pg_name (i := 7) sc_parting.nd rfl (Or.inr rfl)) (pss_one (ps_if (pt_cmpR op_eq (pe_ix ix_list (pv 4) (pv 7) (fun _ _ => rfl)) (pv 7) (nomark _)) (pss_one (ps_expr (pe_bm PySem.F.plainAttrs_list PySem.F.slot_list_append PySem.F.type_list_append mt_append (pv 8) (pa_cons (pe_lc (own := [("x", 9)]) (g := gName 9) rfl sc_parting.nd (pi_range1 (by rfl) T.z_range (pa_cons (pe_fld (pv 0) rfl) pa_nil)) (blkOk_by (own := [("x", 9)]) (N := N_parting) (sc := defScope s_parting) (by decide +kernel)) (fun _ _ _ _ _ => pg_name (i := 9) sc_parting.nd rfl (Or.inl rfl)) (fun _ _ _ _ _ => (pts_one (pt_cmpR op_eq (pe_ix ix_list (pv 4) (pv 9) (fun _ _ => rfl)) (pv 7) (nomark _)))) (fun _ _ _ _ _ => (pv 9))) pa_nil)))) pss_nil)))
    (pss_one (ps_ret (pv 8)))))))))))
theorem sc_ring_of : FnScope N_ring_of ["room", "seat"] (defScope s_ring_of) := ⟨rfl, rfl, rfl, by decide +kernel, rfl, by decide +kernel, by decide +kernel⟩
theorem ok_ring_of {f : Addr} {fd : FuncData} (T : Txt K mg g) (F : Fun K "ring_of" "ring_of" s_ring_of f fd) (c_Room_moves : CalM P w K mg base 1 g.Room "moves" ["self"] (sp_Room_moves K g)) (c_ask_seat : Cal P w K mg base 1 "ask_seat" ["room", "seat"] (sp_ask_seat K g)) : FnOk P w K mg base (L2.CX P w) 2 f fd ["room", "seat"] (sp_ring_of K g) := by
  refine F.okX sc_ring_of (fun vs H Q E h => len_ring_of K g vs H Q E h) (fun cdv A outer s H vs Q E hr h => ⟨t_ring_of K g E, ?_, pure_ring_of  vs H Q E h⟩)
  have hu := hu_of hr
  have tkE : Takes (cxOf (L2.CX P w) P w K mg base N_ring_of "ring_of" (defScope s_ring_of) f cdv A outer s H E) (wE E) := takes_of rfl rfl rfl rfl
  exact (pss_cons (ps_expr (pe_cal c_ask_seat (hr.mono (by decide)) rfl (fun σ => passAt tkE σ) (pa_cons (pv 0) (pa_cons (pv 1) pa_nil))))
    (pss_cons (ps_set (i := 2) sc_ring_of.nd rfl (Or.inl rfl) (pe_calM0 (pv 0) T.cl_Room c_Room_moves (hr.mono (by decide)) (fun σ => passE0 σ)))
    (pss_cons (ps_set (i := 3) sc_ring_of.nd rfl (Or.inl rfl) (pe_lst (pa_cons (pv 1) pa_nil)))
    (pss_cons (ps_set (i := 4) sc_ring_of.nd rfl (Or.inl rfl) pe_int)
    (pss_cons (ps_while (passes_of rfl) (pt_cmpR op_lt (pv 4) (pe_callB call_len_seq (by rfl) T.z_len PySem.boot_len (pa_cons (pv 3) pa_nil)) (nomark _)) (pss_cons (ps_for (passes_of rfl) rfl (pi_list (pv 2)) (pg_name (i := 5) sc_ring_of.nd rfl (Or.inl rfl)) (pss_one (ps_if (pt_cmpR op_notIn_seq (pe_ix ix_tup (pv 5) (pe_ix ix_list (pv 3) (pv 4) (fun _ _ => rfl)) (fun _ _ => rfl)) (pv 3) (by rfl)) (pss_one (ps_expr (pe_bm PySem.F.plainAttrs_list PySem.F.slot_list_append PySem.F.type_list_append mt_append (pv 3) (pa_cons (pe_ix ix_tup (pv 5) (pe_ix ix_list (pv 3) (pv 4) (fun _ _ => rfl)) (fun _ _ => rfl)) pa_nil)))) pss_nil)))
    (pss_one (ps_set (i := 4) sc_ring_of.nd rfl (Or.inl rfl) (pe_op op_add (pv 4) pe_int)))))
    (pss_one (ps_ret (pe_callB cr_sortedI (by rfl) T.z_sorted (by decide +kernel) (pa_cons (pv 3) pa_nil)))))))))
theorem sc_L_no_seat : FnScope N_L_no_seat ["room", "seat", "way"] (defScope s_L_no_seat) := ⟨rfl, rfl, rfl, by decide +kernel, rfl, by decide +kernel, by decide +kernel⟩
theorem ok_L_no_seat {f : Addr} {fd : FuncData} (T : Txt K mg g) (F : Fun K "_law_no_seat" "_law_no_seat" s_L_no_seat f fd) (c_holding : Cal P w K mg base 7 "holding" ["room", "seats"] (sp_holding K g)) (c_parting : Cal P w K mg base 2 "parting" ["room", "one", "other"] (sp_parting K g)) (c_ring_of : Cal P w K mg base 2 "ring_of" ["room", "seat"] (sp_ring_of K g)) : FnOk P w K mg base (L2.CX P w) 8 f fd ["room", "seat", "way"] (sp_L_no_seat K g) := by
  refine F.okX sc_L_no_seat (fun vs H Q E h => len_L_no_seat K g vs H Q E h) (fun cdv A outer s H vs Q E hr h => ⟨t_L_no_seat K g E, ?_, pure_L_no_seat  vs H Q E h⟩)
  have hu := hu_of hr
  have tkE : Takes (cxOf (L2.CX P w) P w K mg base N_L_no_seat "_law_no_seat" (defScope s_L_no_seat) f cdv A outer s H E) (wE E) := takes_of rfl rfl rfl rfl
  exact (pss_one (ps_if (pt_cmpR op_eq (pv 2) pe_int (nomark _)) (pss_one (ps_expr (pe_cal c_ring_of (hr.mono (by decide)) rfl (fun σ => passAt tkE σ) (pa_cons (pv 0) (pa_cons (pv 1) pa_nil))))) (pss_one (ps_if (pt_cmpR op_eq (pv 2) pe_int (nomark _)) (pss_one (ps_expr (pe_cal c_parting (hr.mono (by decide)) rfl (fun σ => passAt tkE σ) (pa_cons (pv 0) (pa_cons (pv 1) (pa_cons pe_int pa_nil)))))) (pss_one (ps_if (pt_cmpR op_eq (pv 2) pe_int (nomark _)) (pss_one (ps_expr (pe_cal c_parting (hr.mono (by decide)) rfl (fun σ => passAt tkE σ) (pa_cons (pv 0) (pa_cons pe_int (pa_cons (pv 1) pa_nil)))))) (pss_one (ps_expr (pe_cal c_holding (hr.mono (by decide)) rfl (fun σ => passAt tkE σ) (pa_cons (pv 0) (pa_cons (pe_lst (pa_cons pe_int (pa_cons (pv 1) pa_nil))) pa_nil)))))))))))
theorem sc_Room_number_of : FnScope N_Room_number_of ["self", "a"] (defScope s_Room_number_of) := ⟨rfl, rfl, rfl, by decide +kernel, rfl, by decide +kernel, by decide +kernel⟩
theorem ok_Room_number_of {f : Addr} {fd : FuncData} (T : Txt K mg g) (F : Fun K "number_of" "Room.number_of" s_Room_number_of f fd) (c_Room_ask : CalM P w K mg base 3 g.Room "ask" ["self", "a"] (sp_Room_ask K g)) (c_Room_how_many : CalM P w K mg base 1 g.Room "how_many" ["self"] (sp_Room_how_many K g)) (c_joined : Cal P w K mg base 1 "joined" ["a", "b"] (sp_joined K g)) (c_rest : Cal P w K mg base 2 "rest" ["size"] (sp_rest K g)) : FnOk P w K mg base (L2.CX P w) 4 f fd ["self", "a"] (sp_Room_number_of K g) := by
  refine F.okX sc_Room_number_of (fun vs H Q E h => len_Room_number_of K g vs H Q E h) (fun cdv A outer s H vs Q E hr h => ⟨t_Room_number_of K g E, ?_, pure_Room_number_of T.r_Room T.r_Book vs H Q E h⟩)
  have hu := hu_of hr
  have tkE : Takes (cxOf (L2.CX P w) P w K mg base N_Room_number_of "Room.number_of" (defScope s_Room_number_of) f cdv A outer s H E) (wE E) := takes_of rfl rfl rfl rfl
  exact (pss_cons (ps_expr (pe_calM (pv 0) T.cl_Room c_Room_ask (hr.mono (by decide)) (fun σ => passAt tkE σ) (pa_cons (pv 1) pa_nil)))
    (pss_cons (ps_set (i := 2) sc_Room_number_of.nd rfl (Or.inl rfl) (pe_calM0 (pv 0) T.cl_Room c_Room_how_many (hr.mono (by decide)) (fun σ => passE0 σ)))
    (pss_cons (ps_set (i := 3) sc_Room_number_of.nd rfl (Or.inl rfl) (pe_cal c_rest (hr.mono (by decide)) rfl (fun σ => passAt tkE σ) (pa_cons (pe_fld (pv 0) rfl) pa_nil)))
    (pss_cons (ps_set (i := 4) sc_Room_number_of.nd rfl (Or.inl rfl) pe_int)
    (pss_cons (ps_set (i := 5) sc_Room_number_of.nd rfl (Or.inl rfl) pe_int)
    (pss_cons (ps_for (passes_of rfl) rfl (pi_list (pe_fld (pe_fld (pv 0) rfl) rfl)) (pg_name (i := 6) sc_Room_number_of.nd rfl (Or.inl rfl)) (pss_cons (ps_set (i := 2) sc_Room_number_of.nd rfl (Or.inl rfl) (pe_op op_fdivW (pv 2) (pe_callB call_lenD (by rfl) T.z_len PySem.boot_len (pa_cons (pv 6) pa_nil))))
    (pss_cons (ps_set (i := 7) sc_Room_number_of.nd rfl (Or.inl rfl) pe_non)
    (pss_cons (ps_for (passes_of rfl) rfl (pi_list (pe_callTy (call_list_dK rfl) (by rfl) T.z_list (by decide +kernel) (pa_cons (pv 6) pa_nil))) (pg_name (i := 8) sc_Room_number_of.nd rfl (Or.inl rfl)) (pss_cons (ps_if (pt_cmpR op_lt (pe_ix ix_tup (pv 3) (pv 8) (fun _ _ => rfl)) (pe_ix ix_tup (pv 1) (pv 5) (fun _ _ => rfl)) (nomark _)) (pss_one (ps_set (i := 4) sc_Room_number_of.nd rfl (Or.inl rfl) (pe_op op_add (pv 4) (pv 2)))) pss_nil)
    (pss_one (ps_if (pt_cmpR op_eq (pe_ix ix_tup (pv 3) (pv 8) (fun _ _ => rfl)) (pe_ix ix_tup (pv 1) (pv 5) (fun _ _ => rfl)) (nomark _)) (pss_one (ps_set (i := 7) sc_Room_number_of.nd rfl (Or.inl rfl) (pe_dget hu (pv 6) (pv 8) (fun _ _ => rfl)))) pss_nil))))
    (pss_cons (ps_if (pt_cmpR op_isN (pv 7) pe_non (nomark _)) (pss_one (ps_raise rfl tkE (pmk_own PySem.F.excBase_ValueError T.x_Unreached.ex T.x_Unreached.gC T.x_Unreached.kC (raises_own T.x_Unreached.bC T.x_Unreached.tC) rfl))) pss_nil)
    (pss_cons (ps_set (i := 3) sc_Room_number_of.nd rfl (Or.inl rfl) (pe_cal c_joined (hr.mono (by decide)) rfl (fun σ => passE0 σ) (pa_cons (pe_ix ix_list (pe_fld (pe_fld (pv 0) rfl) rfl) (pv 7) (fun _ _ => rfl)) (pa_cons (pv 3) pa_nil))))
    (pss_one (ps_set (i := 5) sc_Room_number_of.nd rfl (Or.inl rfl) (pe_op op_add (pv 5) pe_int)))))))))
    (pss_one (ps_ret (pv 4)))))))))
theorem sc_Room_reaches : FnScope N_Room_reaches ["self", "a"] (defScope s_Room_reaches) := ⟨rfl, rfl, rfl, by decide +kernel, rfl, by decide +kernel, by decide +kernel⟩
theorem ok_Room_reaches {f : Addr} {fd : FuncData} (T : Txt K mg g) (F : Fun K "reaches" "Room.reaches" s_Room_reaches f fd) (c_Book_sifted : CalM P w K mg base 2 g.Book "sifted" ["self", "seating"] (sp_Book_sifted K g)) (c_Room_ask : CalM P w K mg base 3 g.Room "ask" ["self", "a"] (sp_Room_ask K g)) : FnOk P w K mg base (L2.CX P w) 4 f fd ["self", "a"] (sp_Room_reaches K g) := by
  refine F.okX sc_Room_reaches (fun vs H Q E h => len_Room_reaches K g vs H Q E h) (fun cdv A outer s H vs Q E hr h => ⟨t_Room_reaches K g E, ?_, pure_Room_reaches T.r_Room vs H Q E h⟩)
  have hu := hu_of hr
  have tkE : Takes (cxOf (L2.CX P w) P w K mg base N_Room_reaches "Room.reaches" (defScope s_Room_reaches) f cdv A outer s H E) (wE E) := takes_of rfl rfl rfl rfl
  exact (pss_cons (ps_expr (pe_calM (pv 0) T.cl_Room c_Room_ask (hr.mono (by decide)) (fun σ => passAt tkE σ) (pa_cons (pv 1) pa_nil)))
    (pss_one (ps_ret (pe_cmpR op_eq (pe_ix ix_tup (pe_calM (pe_fld (pv 0) rfl) T.cl_Book c_Book_sifted (hr.mono (by decide)) (fun σ => passE0 σ) (pa_cons (pv 1) pa_nil)) pe_int (fun _ _ => rfl)) (pe_fld (pv 0) rfl) (nomark _)))))
theorem sc_Room_recipe : FnScope N_Room_recipe ["self", "a"] (defScope s_Room_recipe) := ⟨rfl, rfl, rfl, by decide +kernel, rfl, by decide +kernel, by decide +kernel⟩
theorem ok_Room_recipe {f : Addr} {fd : FuncData} (T : Txt K mg g) (F : Fun K "recipe" "Room.recipe" s_Room_recipe f fd) (c_Book_sifted : CalM P w K mg base 2 g.Book "sifted" ["self", "seating"] (sp_Book_sifted K g)) (c_Room_ask : CalM P w K mg base 3 g.Room "ask" ["self", "a"] (sp_Room_ask K g)) : FnOk P w K mg base (L2.CX P w) 4 f fd ["self", "a"] (sp_Room_recipe K g) := by
  refine F.okX sc_Room_recipe (fun vs H Q E h => len_Room_recipe K g vs H Q E h) (fun cdv A outer s H vs Q E hr h => ⟨t_Room_recipe K g E, ?_, pure_Room_recipe T.r_Room T.r_Book vs H Q E h⟩)
  have hu := hu_of hr
  have tkE : Takes (cxOf (L2.CX P w) P w K mg base N_Room_recipe "Room.recipe" (defScope s_Room_recipe) f cdv A outer s H E) (wE E) := takes_of rfl rfl rfl rfl
  exact (pss_cons (ps_expr (pe_calM (pv 0) T.cl_Room c_Room_ask (hr.mono (by decide)) (fun σ => passAt tkE σ) (pa_cons (pv 1) pa_nil)))
    (pss_cons (ps_set (i := 2) sc_Room_recipe.nd rfl (Or.inl rfl) (pe_calM (pe_fld (pv 0) rfl) T.cl_Book c_Book_sifted (hr.mono (by decide)) (fun σ => passE0 σ) (pa_cons (pv 1) pa_nil)))
    (pss_cons (ps_if (pt_cmpR op_lt (pe_ix ix_tup (pv 2) pe_int (fun _ _ => rfl)) (pe_fld (pv 0) rfl) (nomark _)) (pss_one (ps_raise rfl tkE (pmk_own PySem.F.excBase_ValueError T.x_Unreached.ex T.x_Unreached.gC T.x_Unreached.kC (raises_own T.x_Unreached.bC T.x_Unreached.tC) rfl))) pss_nil)
    (pss_cons (ps_set (i := 3) sc_Room_recipe.nd rfl (Or.inl rfl) (pe_callTy call_list_of (by rfl) T.z_list (by decide +kernel) (pa_cons (pe_fld (pe_fld (pv 0) rfl) rfl) pa_nil)))
    (pss_cons (ps_set (i := 4) sc_Room_recipe.nd rfl (Or.inl rfl) pe_int)
    (pss_cons (ps_for (passes_of rfl) rfl (pi_reversed (by rfl) T.z_reversed (pa_cons (pe_ix ix_tup (pv 2) pe_int (fun _ _ => rfl)) pa_nil)) (pg_name (i := 5) sc_Room_recipe.nd rfl (Or.inl rfl)) (pss_cons (ps_expr (pe_bm PySem.F.plainAttrs_list PySem.F.slot_list_append PySem.F.type_list_append mt_append (pv 3) (pa_cons (pe_tup (pa_cons pe_str (pa_cons (pv 4) (pa_cons (pv 5) pa_nil)))) pa_nil)))
    (pss_one (ps_set (i := 4) sc_Room_recipe.nd rfl (Or.inl rfl) (pe_op op_sub (pe_callB call_len_seq (by rfl) T.z_len PySem.boot_len (pa_cons (pv 3) pa_nil)) pe_int)))))
    (pss_one (ps_ret (pv 3)))))))))
theorem sc_rings : FnScope N_rings ["a"] (defScope s_rings) := ⟨rfl, rfl, rfl, by decide +kernel, rfl, by decide +kernel, by decide +kernel⟩
theorem ok_rings {f : Addr} {fd : FuncData} (T : Txt K mg g) (F : Fun K "rings" "rings" s_rings f fd) (c_ask_seating : Cal P w K mg base 2 "ask_seating" ["a"] (sp_ask_seating K g)) : FnOk P w K mg base (L2.CX P w) 3 f fd ["a"] (sp_rings K g) := by
  refine F.okX sc_rings (fun vs H Q E h => len_rings K g vs H Q E h) (fun cdv A outer s H vs Q E hr h => ⟨t_rings K g E, ?_, pure_rings  vs H Q E h⟩)
  have hu := hu_of hr
  have tkE : Takes (cxOf (L2.CX P w) P w K mg base N_rings "rings" (defScope s_rings) f cdv A outer s H E) (wE E) := takes_of rfl rfl rfl rfl
  exact (pss_cons (ps_expr (pe_cal c_ask_seating (hr.mono (by decide)) rfl (fun σ => passAt tkE σ) (pa_cons (pv 0) pa_nil)))
    (pss_cons (ps_set (i := 1) sc_rings.nd rfl (Or.inl rfl) (pe_lst pa_nil))
    (pss_cons (ps_set (i := 2) sc_rings.nd rfl (Or.inl rfl) pe_dnewK)
    (pss_cons (ps_for (passes_of rfl) rfl (pi_range1 (by rfl) T.z_range (pa_cons (pe_callB call_len_seq (by rfl) T.z_len PySem.boot_len (pa_cons (pv 0) pa_nil)) pa_nil)) (pg_name (i := 3) sc_rings.nd rfl (Or.inl rfl)) (pss_one (ps_if (pt_cmp (pc_dnotin hu (pv 3) (pv 2))) (pss_cons (ps_set (i := 4) sc_rings.nd rfl (Or.inl rfl) (pe_lst (pa_cons (pv 3) pa_nil)))
    (pss_cons (ps_set (i := 5) sc_rings.nd rfl (Or.inl rfl) (pe_ix ix_tup (pv 0) (pv 3) (fun _ _ => rfl)))
    (pss_cons (ps_while (passes_of rfl) (pt_cmpR op_ne (pv 5) (pv 3) (nomark _)) (pss_cons (ps_expr (pe_bm PySem.F.plainAttrs_list PySem.F.slot_list_append PySem.F.type_list_append mt_append (pv 4) (pa_cons (pv 5) pa_nil)))
    (pss_cons (ps_dput hu (pv 2) (pv 5) pe_bl rfl)
    (pss_one (ps_set (i := 5) sc_rings.nd rfl (Or.inl rfl) (pe_ix ix_tup (pv 0) (pv 5) (fun _ _ => rfl)))))))
    (pss_one (ps_if (pt_cmpR op_gt (pe_callB call_len_seq (by rfl) T.z_len PySem.boot_len (pa_cons (pv 4) pa_nil)) pe_int (nomark _)) (pss_one (ps_expr (pe_bm PySem.F.plainAttrs_list PySem.F.slot_list_append PySem.F.type_list_append mt_append (pv 1) (pa_cons (pe_callTy call_tuple_of (by rfl) T.z_tuple (by decide +kernel) (pa_cons (pv 4) pa_nil)) pa_nil)))) pss_nil))))) pss_nil)))
    (pss_one (ps_ret (pv 1)))))))
theorem sc_shared : FnScope N_shared ["one", "other"] (defScope s_shared) := ⟨rfl, rfl, rfl, by decide +kernel, rfl, by decide +kernel, by decide +kernel⟩
theorem ok_shared {f : Addr} {fd : FuncData} (T : Txt K mg g) (F : Fun K "shared" "shared" s_shared f fd)  : FnOk P w K mg base (L2.CX P w) 1 f fd ["one", "other"] (sp_shared K g) := by
  refine F.okX sc_shared (fun vs H Q E h => len_shared K g vs H Q E h) (fun cdv A outer s H vs Q E hr h => ⟨t_shared K g E, ?_, pure_shared  vs H Q E h⟩)
  have hu := hu_of hr
  have tkE : Takes (cxOf (L2.CX P w) P w K mg base N_shared "shared" (defScope s_shared) f cdv A outer s H E) (wE E) := takes_of rfl rfl rfl rfl
  exact (pss_cons (ps_while (passes_of rfl) (pt_cmpR op_ne (pv 1) pe_int (nomark _)) (pss_cons (ps_set (i := 2) sc_shared.nd rfl (Or.inl rfl) (pe_op op_modN (pv 0) (pv 1)))
    (pss_cons (ps_set (i := 0) sc_shared.nd rfl (Or.inl rfl) (pv 1))
    (pss_one (ps_set (i := 1) sc_shared.nd rfl (Or.inl rfl) (pv 2))))))
    (pss_one (ps_ret (pv 0))))
theorem sc_age : FnScope N_age ["a"] (defScope s_age) := ⟨rfl, rfl, rfl, by decide +kernel, rfl, by decide +kernel, by decide +kernel⟩
theorem ok_age {f : Addr} {fd : FuncData} (T : Txt K mg g) (F : Fun K "age" "age" s_age f fd) (c_rings : Cal P w K mg base 3 "rings" ["a"] (sp_rings K g)) (c_shared : Cal P w K mg base 1 "shared" ["one", "other"] (sp_shared K g)) : FnOk P w K mg base (L2.CX P w) 4 f fd ["a"] (sp_age K g) := by
  refine F.okX sc_age (fun vs H Q E h => len_age K g vs H Q E h) (fun cdv A outer s H vs Q E hr h => ⟨t_age K g E, ?_, pure_age  vs H Q E h⟩)
  have hu := hu_of hr
  have tkE : Takes (cxOf (L2.CX P w) P w K mg base N_age "age" (defScope s_age) f cdv A outer s H E) (wE E) := takes_of rfl rfl rfl rfl
  exact (pss_cons (ps_set (i := 1) sc_age.nd rfl (Or.inl rfl) pe_int)
    (pss_cons (ps_for (passes_of rfl) rfl (pi_list (pe_cal c_rings (hr.mono (by decide)) rfl (fun σ => passAt tkE σ) (pa_cons (pv 0) pa_nil))) (pg_name (i := 2) sc_age.nd rfl (Or.inl rfl)) (pss_one (ps_set (i := 1) sc_age.nd rfl (Or.inl rfl) (pe_op op_mul (pe_op op_fdivW (pv 1) (pe_cal c_shared (hr.mono (by decide)) rfl (fun σ => passE0 σ) (pa_cons (pv 1) (pa_cons (pe_callB call_len_seq (by rfl) T.z_len PySem.boot_len (pa_cons (pv 2) pa_nil)) pa_nil)))) (pe_callB call_len_seq (by rfl) T.z_len PySem.boot_len (pa_cons (pv 2) pa_nil))))))
    (pss_one (ps_ret (pv 1)))))
theorem sc_back : FnScope N_back ["a"] (defScope s_back) := ⟨rfl, rfl, rfl, by decide +kernel, rfl, by decide +kernel, by decide +kernel⟩
theorem ok_back {f : Addr} {fd : FuncData} (T : Txt K mg g) (F : Fun K "back" "back" s_back f fd) (c_ask_seating : Cal P w K mg base 2 "ask_seating" ["a"] (sp_ask_seating K g)) (c_turned : Cal P w K mg base 1 "turned" ["a"] (sp_turned K g)) : FnOk P w K mg base (L2.CX P w) 3 f fd ["a"] (sp_back K g) := by
  refine F.okX sc_back (fun vs H Q E h => len_back K g vs H Q E h) (fun cdv A outer s H vs Q E hr h => ⟨t_back K g E, ?_, pure_back  vs H Q E h⟩)
  have hu := hu_of hr
  have tkE : Takes (cxOf (L2.CX P w) P w K mg base N_back "back" (defScope s_back) f cdv A outer s H E) (wE E) := takes_of rfl rfl rfl rfl
  exact (pss_cons (ps_expr (pe_cal c_ask_seating (hr.mono (by decide)) rfl (fun σ => passAt tkE σ) (pa_cons (pv 0) pa_nil)))
    (pss_one (ps_ret (pe_cal c_turned (hr.mono (by decide)) rfl (fun σ => passE0 σ) (pa_cons (pv 0) pa_nil)))))
theorem sc_even : FnScope N_even ["a"] (defScope s_even) := ⟨rfl, rfl, rfl, by decide +kernel, rfl, by decide +kernel, by decide +kernel⟩
theorem ok_even {f : Addr} {fd : FuncData} (T : Txt K mg g) (F : Fun K "even" "even" s_even f fd) (c_rings : Cal P w K mg base 3 "rings" ["a"] (sp_rings K g)) : FnOk P w K mg base (L2.CX P w) 4 f fd ["a"] (sp_even K g) := by
  refine F.okX sc_even (fun vs H Q E h => len_even K g vs H Q E h) (fun cdv A outer s H vs Q E hr h => ⟨t_even K g E, ?_, pure_even  vs H Q E h⟩)
  have hu := hu_of hr
  have tkE : Takes (cxOf (L2.CX P w) P w K mg base N_even "even" (defScope s_even) f cdv A outer s H E) (wE E) := takes_of rfl rfl rfl rfl
  exact (pss_cons (ps_set (i := 1) sc_even.nd rfl (Or.inl rfl) pe_int)
    (pss_cons (ps_for (passes_of rfl) rfl (pi_list (pe_cal c_rings (hr.mono (by decide)) rfl (fun σ => passAt tkE σ) (pa_cons (pv 0) pa_nil))) (pg_name (i := 2) sc_even.nd rfl (Or.inl rfl)) (pss_one (ps_set (i := 1) sc_even.nd rfl (Or.inl rfl) (pe_op op_sub (pe_op op_add (pv 1) (pe_callB call_len_seq (by rfl) T.z_len PySem.boot_len (pa_cons (pv 2) pa_nil))) pe_int))))
    (pss_one (ps_ret (pe_cmpR op_eq (pe_op op_modN (pv 1) pe_int) pe_int (nomark _))))))
theorem sc_shown : FnScope N_shown ["a"] (defScope s_shown) := ⟨rfl, rfl, rfl, by decide +kernel, rfl, by decide +kernel, by decide +kernel⟩
theorem ok_shown {f : Addr} {fd : FuncData} (T : Txt K mg g) (F : Fun K "shown" "shown" s_shown f fd) (c_rings : Cal P w K mg base 3 "rings" ["a"] (sp_rings K g)) : FnOk P w K mg base (L2.CX P w) 4 f fd ["a"] (sp_shown K g) := by
  refine F.okX sc_shown (fun vs H Q E h => len_shown K g vs H Q E h) (fun cdv A outer s H vs Q E hr h => ⟨t_shown K g E, ?_, pure_shown  vs H Q E h⟩)
  have hu := hu_of hr
  have tkE : Takes (cxOf (L2.CX P w) P w K mg base N_shown "shown" (defScope s_shown) f cdv A outer s H E) (wE E) := takes_of rfl rfl rfl rfl
  exact (pss_cons (ps_set (i := 1) sc_shown.nd rfl (Or.inl rfl) pe_str)
    (pss_cons (ps_for (passes_of rfl) rfl (pi_list (pe_cal c_rings (hr.mono (by decide)) rfl (fun σ => passAt tkE σ) (pa_cons (pv 0) pa_nil))) (pg_name (i := 2) sc_shown.nd rfl (Or.inl rfl)) (pss_one (ps_set (i := 1) sc_shown.nd rfl (Or.inl rfl) (pe_op op_add_str (pe_op op_add_str (pe_op op_add_str (pv 1) pe_str) (pe_join pe_str (pe_lc (own := [("k", 3)]) (g := gName 3) rfl sc_shown.nd (pi_tup (pv 2)) (blkOk_by (own := [("k", 3)]) (N := N_shown) (sc := defScope s_shown) (by decide +kernel)) (fun _ _ _ _ _ => pg_name (i := 3) sc_shown.nd rfl (Or.inl rfl)) (fun _ _ _ _ _ => pts_nil) (fun _ _ _ _ _ => (pe_callTy call_str_int (by rfl) T.z_str (by decide +kernel) (pa_cons (pv 3) pa_nil)))))) pe_str))))
    (pss_cons (ps_if (pt_cmpR op_eq (pv 1) pe_str (nomark _)) (pss_one (ps_ret pe_str)) pss_nil)
    (pss_one (ps_ret (pv 1))))))
theorem sc_then : FnScope N_then ["a", "b"] (defScope s_then) := ⟨rfl, rfl, rfl, by decide +kernel, rfl, by decide +kernel, by decide +kernel⟩
theorem ok_then {f : Addr} {fd : FuncData} (T : Txt K mg g) (F : Fun K "then" "then" s_then f fd) (c_ask_seating : Cal P w K mg base 2 "ask_seating" ["a"] (sp_ask_seating K g)) (c_joined : Cal P w K mg base 1 "joined" ["a", "b"] (sp_joined K g)) : FnOk P w K mg base (L2.CX P w) 3 f fd ["a", "b"] (sp_then K g) := by
  refine F.okX sc_then (fun vs H Q E h => len_then K g vs H Q E h) (fun cdv A outer s H vs Q E hr h => ⟨t_then K g E, ?_, pure_then  vs H Q E h⟩)
  have hu := hu_of hr
  have tkE : Takes (cxOf (L2.CX P w) P w K mg base N_then "then" (defScope s_then) f cdv A outer s H E) (wE E) := takes_of rfl rfl rfl rfl
  exact (pss_cons (ps_expr (pe_cal c_ask_seating (hr.mono (by decide)) rfl (fun σ => passAt tkE σ) (pa_cons (pv 0) pa_nil)))
    (pss_cons (ps_expr (pe_cal c_ask_seating (hr.mono (by decide)) rfl (fun σ => passAt tkE σ) (pa_cons (pv 1) pa_nil)))
    (pss_cons (ps_if (pt_cmpR op_ne (pe_callB call_len_seq (by rfl) T.z_len PySem.boot_len (pa_cons (pv 0) pa_nil)) (pe_callB call_len_seq (by rfl) T.z_len PySem.boot_len (pa_cons (pv 1) pa_nil)) (nomark _)) (pss_one (ps_raise rfl tkE (pmk_own PySem.F.excBase_ValueError T.x_OtherSize.ex T.x_OtherSize.gC T.x_OtherSize.kC (raises_own T.x_OtherSize.bC T.x_OtherSize.tC) rfl))) pss_nil)
    (pss_one (ps_ret (pe_cal c_joined (hr.mono (by decide)) rfl (fun σ => passE0 σ) (pa_cons (pv 0) (pa_cons (pv 1) pa_nil))))))))
theorem sc_times : FnScope N_times ["a", "n"] (defScope s_times) := ⟨rfl, rfl, rfl, by decide +kernel, rfl, by decide +kernel, by decide +kernel⟩
theorem ok_times {f : Addr} {fd : FuncData} (T : Txt K mg g) (F : Fun K "times" "times" s_times f fd) (c_age : Cal P w K mg base 4 "age" ["a"] (sp_age K g)) (c_joined : Cal P w K mg base 1 "joined" ["a", "b"] (sp_joined K g)) (c_rest : Cal P w K mg base 2 "rest" ["size"] (sp_rest K g)) : FnOk P w K mg base (L2.CX P w) 5 f fd ["a", "n"] (sp_times K g) := by
  refine F.okX sc_times (fun vs H Q E h => len_times K g vs H Q E h) (fun cdv A outer s H vs Q E hr h => ⟨t_times K g E, ?_, pure_times  vs H Q E h⟩)
  have hu := hu_of hr
  have tkE : Takes (cxOf (L2.CX P w) P w K mg base N_times "times" (defScope s_times) f cdv A outer s H E) (wE E) := takes_of rfl rfl rfl rfl
  exact (pss_cons (ps_set (i := 2) sc_times.nd rfl (Or.inl rfl) (pe_op op_modN (pv 1) (pe_cal c_age (hr.mono (by decide)) rfl (fun σ => passAt tkE σ) (pa_cons (pv 0) pa_nil))))
    (pss_cons (ps_set (i := 3) sc_times.nd rfl (Or.inl rfl) (pe_cal c_rest (hr.mono (by decide)) rfl (fun σ => passAt tkE σ) (pa_cons (pe_callB call_len_seq (by rfl) T.z_len PySem.boot_len (pa_cons (pv 0) pa_nil)) pa_nil)))
    (pss_cons (ps_for (passes_of rfl) rfl (pi_range1 (by rfl) T.z_range (pa_cons (pv 2) pa_nil)) (pg_name (i := 4) sc_times.nd rfl (Or.inl rfl)) (pss_one (ps_set (i := 3) sc_times.nd rfl (Or.inl rfl) (pe_cal c_joined (hr.mono (by decide)) rfl (fun σ => passE0 σ) (pa_cons (pv 3) (pa_cons (pv 0) pa_nil))))))
    (pss_one (ps_ret (pv 3))))))
theorem sc_L_no_seating : FnScope N_L_no_seating ["room", "bad", "way"] (defScope s_L_no_seating) := ⟨rfl, rfl, rfl, by decide +kernel, rfl, by decide +kernel, by decide +kernel⟩
theorem ok_L_no_seating {f : Addr} {fd : FuncData} (T : Txt K mg g) (F : Fun K "_law_no_seating" "_law_no_seating" s_L_no_seating f fd) (c_Room_number_of : CalM P w K mg base 4 g.Room "number_of" ["self", "a"] (sp_Room_number_of K g)) (c_Room_put_move : CalM P w K mg base 4 g.Room "put_move" ["self", "move"] (sp_Room_put_move K g)) (c_Room_reaches : CalM P w K mg base 4 g.Room "reaches" ["self", "a"] (sp_Room_reaches K g)) (c_Room_recipe : CalM P w K mg base 4 g.Room "recipe" ["self", "a"] (sp_Room_recipe K g)) (c_age : Cal P w K mg base 4 "age" ["a"] (sp_age K g)) (c_back : Cal P w K mg base 3 "back" ["a"] (sp_back K g)) (c_even : Cal P w K mg base 4 "even" ["a"] (sp_even K g)) (c_rest : Cal P w K mg base 2 "rest" ["size"] (sp_rest K g)) (c_rings : Cal P w K mg base 3 "rings" ["a"] (sp_rings K g)) (c_shown : Cal P w K mg base 4 "shown" ["a"] (sp_shown K g)) (c_then : Cal P w K mg base 3 "then" ["a", "b"] (sp_then K g)) (c_times : Cal P w K mg base 5 "times" ["a", "n"] (sp_times K g)) : FnOk P w K mg base (L2.CX P w) 6 f fd ["room", "bad", "way"] (sp_L_no_seating K g) := by
  refine F.okX sc_L_no_seating (fun vs H Q E h => len_L_no_seating K g vs H Q E h) (fun cdv A outer s H vs Q E hr h => ⟨t_L_no_seating K g E, ?_, pure_L_no_seating T.r_Room vs H Q E h⟩)
  have hu := hu_of hr
  have tkE : Takes (cxOf (L2.CX P w) P w K mg base N_L_no_seating "_law_no_seating" (defScope s_L_no_seating) f cdv A outer s H E) (wE E) := takes_of rfl rfl rfl rfl
  exact (pss_one (ps_if (pt_cmpR op_eq (pv 2) pe_int (nomark _)) (pss_one (ps_expr (pe_cal c_rings (hr.mono (by decide)) rfl (fun σ => passAt tkE σ) (pa_cons (pv 1) pa_nil)))) (pss_one (ps_if (pt_cmpR op_eq (pv 2) pe_int (nomark _)) (pss_one (ps_expr (pe_cal c_age (hr.mono (by decide)) rfl (fun σ => passAt tkE σ) (pa_cons (pv 1) pa_nil)))) (pss_one (ps_if (pt_cmpR op_eq (pv 2) pe_int (nomark _)) (pss_one (ps_expr (pe_cal c_even (hr.mono (by decide)) rfl (fun σ => passAt tkE σ) (pa_cons (pv 1) pa_nil)))) (pss_one (ps_if (pt_cmpR op_eq (pv 2) pe_int (nomark _)) (pss_one (ps_expr (pe_cal c_times (hr.mono (by decide)) rfl (fun σ => passAt tkE σ) (pa_cons (pv 1) (pa_cons pe_int pa_nil))))) (pss_one (ps_if (pt_cmpR op_eq (pv 2) pe_int (nomark _)) (pss_one (ps_expr (pe_cal c_shown (hr.mono (by decide)) rfl (fun σ => passAt tkE σ) (pa_cons (pv 1) pa_nil)))) (pss_one (ps_if (pt_cmpR op_eq (pv 2) pe_int (nomark _)) (pss_one (ps_expr (pe_cal c_back (hr.mono (by decide)) rfl (fun σ => passAt tkE σ) (pa_cons (pv 1) pa_nil)))) (pss_one (ps_if (pt_cmpR op_eq (pv 2) pe_int (nomark _)) (pss_one (ps_expr (pe_calM (pv 0) T.cl_Room c_Room_reaches (hr.mono (by decide)) (fun σ => passAt tkE σ) (pa_cons (pv 1) pa_nil)))) (pss_one (ps_if (pt_cmpR op_eq (pv 2) pe_int (nomark _)) (pss_one (ps_expr (pe_calM (pv 0) T.cl_Room c_Room_recipe (hr.mono (by decide)) (fun σ => passAt tkE σ) (pa_cons (pv 1) pa_nil)))) (pss_one (ps_if (pt_cmpR op_eq (pv 2) pe_int (nomark _)) (pss_one (ps_expr (pe_calM (pv 0) T.cl_Room c_Room_number_of (hr.mono (by decide)) (fun σ => passAt tkE σ) (pa_cons (pv 1) pa_nil)))) (pss_one (ps_if (pt_cmpR op_eq (pv 2) pe_int (nomark _)) (pss_one (ps_expr (pe_calM (pv 0) T.cl_Room c_Room_put_move (hr.mono (by decide)) (fun σ => passAt tkE σ) (pa_cons (pv 1) pa_nil)))) (pss_one (ps_expr (pe_cal c_then (hr.mono (by decide)) rfl (fun σ => passAt tkE σ) (pa_cons (pe_cal c_rest (hr.mono (by decide)) rfl (fun σ => passAt tkE σ) (pa_cons (pe_fld (pv 0) rfl) pa_nil)) (pa_cons (pv 1) pa_nil)))))))))))))))))))))))))
theorem sc_seat_of : FnScope N_seat_of ["word", "size"] (defScope s_seat_of) := ⟨rfl, rfl, rfl, by decide +kernel, rfl, by decide +kernel, by decide +kernel⟩
theorem ok_seat_of {f : Addr} {fd : FuncData} (T : Txt K mg g) (F : Fun K "seat_of" "seat_of" s_seat_of f fd)  : FnOk P w K mg base (L2.CX P w) 1 f fd ["word", "size"] (sp_seat_of K g) := by
  refine F.okX sc_seat_of (fun vs H Q E h => len_seat_of K g vs H Q E h) (fun cdv A outer s H vs Q E hr h => ⟨t_seat_of K g E, ?_, pure_seat_of  vs H Q E h⟩)
  have hu := hu_of hr
  have tkE : Takes (cxOf (L2.CX P w) P w K mg base N_seat_of "seat_of" (defScope s_seat_of) f cdv A outer s H E) (wE E) := takes_of rfl rfl rfl rfl
  exact (pss_cons (ps_if (PW.pt (pw_or (pt_cmpR op_eq (pv 0) pe_str (nomark _)) (pw_or (pt_cmpR op_gt (pe_callB call_len_str (by rfl) T.z_len PySem.boot_len (pa_cons (pv 0) pa_nil)) pe_int (nomark _)) (pw_or1 (PW.pt (pw_and (pt_cmpR op_eq (pe_ix ix_str (pv 0) pe_int (fun _ _ => rfl)) pe_str (nomark _)) (pw_and1 (pt_cmpR op_gt (pe_callB call_len_str (by rfl) T.z_len PySem.boot_len (pa_cons (pv 0) pa_nil)) pe_int (nomark _))))))))) (pss_one (ps_raise rfl tkE (pmk_own PySem.F.excBase_ValueError T.x_NotRead.ex T.x_NotRead.gC T.x_NotRead.kC (raises_own T.x_NotRead.bC T.x_NotRead.tC) rfl))) pss_nil)
    (pss_cons (ps_for (passes_of rfl) rfl (pi_str (pv 0)) (pg_name (i := 2) sc_seat_of.nd rfl (Or.inl rfl)) (pss_one (ps_if (pt_cmpR op_notIn_sign (pv 2) (pe_globS T.c_FIGURES) (by rfl)) (pss_one (ps_raise rfl tkE (pmk_own PySem.F.excBase_ValueError T.x_NotRead.ex T.x_NotRead.gC T.x_NotRead.kC (raises_own T.x_NotRead.bC T.x_NotRead.tC) rfl))) pss_nil)))
    (pss_cons (ps_set (i := 3) sc_seat_of.nd rfl (Or.inl rfl) (pe_callTy call_int_str (by rfl) T.z_int (by decide +kernel) (pa_cons (pv 0) pa_nil)))
    (pss_cons (ps_if (pt_cmpR op_ge (pv 3) (pv 1) (nomark _)) (pss_one (ps_raise rfl tkE (pmk_own PySem.F.excBase_ValueError T.x_NotRead.ex T.x_NotRead.gC T.x_NotRead.kC (raises_own T.x_NotRead.bC T.x_NotRead.tC) rfl))) pss_nil)
    (pss_one (ps_ret (pv 3)))))))
theorem sc_read : FnScope N_read ["text", "size"] (defScope s_read) := ⟨rfl, rfl, rfl, by decide +kernel, rfl, by decide +kernel, by decide +kernel⟩
theorem ok_read {f : Addr} {fd : FuncData} (T : Txt K mg g) (F : Fun K "read" "read" s_read f fd) (c_ask_size : Cal P w K mg base 1 "ask_size" ["size"] (sp_ask_size K g)) (c_rest : Cal P w K mg base 2 "rest" ["size"] (sp_rest K g)) (c_seat_of : Cal P w K mg base 1 "seat_of" ["word", "size"] (sp_seat_of K g)) : FnOk P w K mg base (L2.CX P w) 3 f fd ["text", "size"] (sp_read K g) := by
  refine F.okX sc_read (fun vs H Q E h => len_read K g vs H Q E h) (fun cdv A outer s H vs Q E hr h => ⟨t_read K g E, ?_, pure_read  vs H Q E h⟩)
  have hu := hu_of hr
  have tkE : Takes (cxOf (L2.CX P w) P w K mg base N_read "read" (defScope s_read) f cdv A outer s H E) (wE E) := takes_of rfl rfl rfl rfl
  exact (pss_cons (ps_expr (pe_cal c_ask_size (hr.mono (by decide)) rfl (fun σ => passAt tkE σ) (pa_cons (pv 1) pa_nil)))
    (pss_cons (ps_set (i := 2) sc_read.nd rfl (Or.inl rfl) (pe_callTy call_list_of (by rfl) T.z_list (by decide +kernel) (pa_cons (pe_cal c_rest (hr.mono (by decide)) rfl (fun σ => passAt tkE σ) (pa_cons (pv 1) pa_nil)) pa_nil)))
    (pss_cons (ps_if (pt_cmpR op_eq (pv 0) pe_str (nomark _)) (pss_one (ps_ret (pe_callTy call_tuple_of (by rfl) T.z_tuple (by decide +kernel) (pa_cons (pv 2) pa_nil)))) pss_nil)
    (pss_cons (ps_if (PW.pt (pw_or (pt_cmpR op_lt (pe_callB call_len_str (by rfl) T.z_len PySem.boot_len (pa_cons (pv 0) pa_nil)) pe_int (nomark _)) (pw_or (pt_cmpR op_ne (pe_ix ix_str (pv 0) pe_int (fun _ _ => rfl)) pe_str (nomark _)) (pw_or1 (pt_cmpR op_ne (pe_ix ix_str (pv 0) (pe_un un_neg pe_int) (fun _ _ => rfl)) pe_str (nomark _)))))) (pss_one (ps_raise rfl tkE (pmk_own PySem.F.excBase_ValueError T.x_NotRead.ex T.x_NotRead.gC T.x_NotRead.kC (raises_own T.x_NotRead.bC T.x_NotRead.tC) rfl))) pss_nil)
    (pss_cons (ps_set (i := 3) sc_read.nd rfl (Or.inl rfl) pe_dnewK)
    (pss_cons (ps_for (passes_of rfl) rfl (pi_list (pe_split (pe_slice sl_str (pv 0) (po_some pe_int) (po_some (pe_un un_neg pe_int))) pe_str)) (pg_name (i := 4) sc_read.nd rfl (Or.inl rfl)) (pss_cons (ps_setLcX (i := 5) (own := [("word", 7)]) (g := gName 7) rfl sc_read.nd rfl rfl tkE rfl rfl (sw_true rfl rfl rfl (by decide +kernel)) (pi_list (pe_split (pv 4) pe_str)) (blkOk_by (own := [("word", 7)]) (N := N_read) (sc := defScope s_read) (by decide +kernel)) (fun _ _ _ _ _ => pg_name (i := 7) sc_read.nd rfl (Or.inl rfl)) (fun _ _ _ _ _ => pts_nil) (fun _ _ _ _ _ _ hxx => (pe_cal c_seat_of (hr.mono (by decide)) rfl hxx (pa_cons (pv 7) (pa_cons (pv 1) pa_nil)))))
    (pss_cons (ps_if (pt_cmpR op_lt (pe_callB call_len_seq (by rfl) T.z_len PySem.boot_len (pa_cons (pv 5) pa_nil)) pe_int (nomark _)) (pss_one (ps_raise rfl tkE (pmk_own PySem.F.excBase_ValueError T.x_NotRead.ex T.x_NotRead.gC T.x_NotRead.kC (raises_own T.x_NotRead.bC T.x_NotRead.tC) rfl))) pss_nil)
    (pss_one (ps_for (passes_of rfl) rfl (pi_range1 (by rfl) T.z_range (pa_cons (pe_callB call_len_seq (by rfl) T.z_len PySem.boot_len (pa_cons (pv 5) pa_nil)) pa_nil)) (pg_name (i := 6) sc_read.nd rfl (Or.inl rfl)) (pss_cons (ps_if (pt_cmp (pc_din hu (pe_ix ix_list (pv 5) (pv 6) (fun _ _ => rfl)) (pv 3))) (pss_one (ps_raise rfl tkE (pmk_own PySem.F.excBase_ValueError T.x_NotRead.ex T.x_NotRead.gC T.x_NotRead.kC (raises_own T.x_NotRead.bC T.x_NotRead.tC) rfl))) pss_nil)
    (pss_cons (ps_dput hu (pv 3) (pe_ix ix_list (pv 5) (pv 6) (fun _ _ => rfl)) pe_bl rfl)
    (pss_one (ps_asg (pe_ix ix_list (pv 5) (pe_op op_modN (pe_op op_add (pv 6) pe_int) (pe_callB call_len_seq (by rfl) T.z_len PySem.boot_len (pa_cons (pv 5) pa_nil))) (fun _ _ => rfl)) (pg_sub (pv 2) (pe_ix ix_list (pv 5) (pv 6) (fun _ _ => rfl)) set_list))))))))))
    (pss_one (ps_ret (pe_callTy call_tuple_of (by rfl) T.z_tuple (by decide +kernel) (pa_cons (pv 2) pa_nil))))))))))
theorem sc_L_no_size : FnScope N_L_no_size ["cell", "far"] (defScope s_L_no_size) := ⟨rfl, rfl, rfl, by decide +kernel, rfl, by decide +kernel, by decide +kernel⟩
theorem ok_L_no_size {f : Addr} {fd : FuncData} (T : Txt K mg g) (F : Fun K "_law_no_size" "_law_no_size" s_L_no_size f fd) (c_Room_init : CalI P w K mg base 5 g.Room ["self", "size"] (sp_Room_init K g)) (c_read : Cal P w K mg base 3 "read" ["text", "size"] (sp_read K g)) (c_rest : Cal P w K mg base 2 "rest" ["size"] (sp_rest K g)) : FnOk P w K mg base (L2.CX P w) 7 f fd ["cell", "far"] (sp_L_no_size K g) := by
  refine F.okX sc_L_no_size (fun vs H Q E h => len_L_no_size K g vs H Q E h) (fun cdv A outer s H vs Q E hr h => ⟨t_L_no_size K g E, ?_, pure_L_no_size  vs H Q E h⟩)
  have hu := hu_of hr
  have tkE : Takes (cxOf (L2.CX P w) P w K mg base N_L_no_size "_law_no_size" (defScope s_L_no_size) f cdv A outer s H E) (wE E) := takes_of rfl rfl rfl rfl
  exact (pss_cons (ps_set (i := 2) sc_L_no_size.nd rfl (Or.inl rfl) (pe_ix ix_list (pe_lst (pa_cons pe_int (pa_cons pe_int (pa_cons (pe_op op_sub (pe_un un_neg pe_int) (pv 1)) (pa_cons (pe_op op_add pe_int (pv 1)) pa_nil))))) (pe_op op_modN (pv 0) pe_int) (fun _ _ => rfl)))
    (pss_cons (ps_set (i := 3) sc_L_no_size.nd rfl (Or.inl rfl) (pe_op op_modN (pe_op op_fdivW (pv 0) pe_int) pe_int))
    (pss_one (ps_if (pt_cmpR op_eq (pv 3) pe_int (nomark _)) (pss_one (ps_expr (pe_mk c_Room_init (hr.mono (by decide)) rfl T.g_Room (fun σ => passAt tkE σ) (pa_cons (pv 2) pa_nil)))) (pss_one (ps_if (pt_cmpR op_eq (pv 3) pe_int (nomark _)) (pss_one (ps_expr (pe_cal c_rest (hr.mono (by decide)) rfl (fun σ => passAt tkE σ) (pa_cons (pv 2) pa_nil)))) (pss_one (ps_expr (pe_cal c_read (hr.mono (by decide)) rfl (fun σ => passAt tkE σ) (pa_cons pe_str (pa_cons (pv 2) pa_nil)))))))))))
theorem sc_within : FnScope N_within ["room", "other"] (defScope s_within) := ⟨rfl, rfl, rfl, by decide +kernel, rfl, by decide +kernel, by decide +kernel⟩
theorem ok_within {f : Addr} {fd : FuncData} (T : Txt K mg g) (F : Fun K "within" "within" s_within f fd) (c_Room_moves : CalM P w K mg base 1 g.Room "moves" ["self"] (sp_Room_moves K g)) (c_Room_reaches : CalM P w K mg base 4 g.Room "reaches" ["self", "a"] (sp_Room_reaches K g)) : FnOk P w K mg base (L2.CX P w) 5 f fd ["room", "other"] (sp_within K g) := by
  refine F.okX sc_within (fun vs H Q E h => len_within K g vs H Q E h) (fun cdv A outer s H vs Q E hr h => ⟨t_within K g E, ?_, pure_within T.r_Room vs H Q E h⟩)
  have hu := hu_of hr
  have tkE : Takes (cxOf (L2.CX P w) P w K mg base N_within "within" (defScope s_within) f cdv A outer s H E) (wE E) := takes_of rfl rfl rfl rfl
  exact (pss_cons (ps_if (pt_cmpR op_ne (pe_fld (pv 0) rfl) (pe_fld (pv 1) rfl) (nomark _)) (pss_one (ps_raise rfl tkE (pmk_own PySem.F.excBase_ValueError T.x_OtherSize.ex T.x_OtherSize.gC T.x_OtherSize.kC (raises_own T.x_OtherSize.bC T.x_OtherSize.tC) rfl))) pss_nil)
    (pss_cons (ps_for (passes_of rfl) rfl (pi_list (pe_calM0 (pv 0) T.cl_Room c_Room_moves (hr.mono (by decide)) (fun σ => passE0 σ))) (pg_name (i := 2) sc_within.nd rfl (Or.inl rfl)) (pss_one (ps_if (pt_not (pt_val (pe_calM (pv 1) T.cl_Room c_Room_reaches (hr.mono (by decide)) (fun σ => passAt tkE σ) (pa_cons (pv 2) pa_nil)))) (pss_one (ps_ret pe_bl)) pss_nil)))
    (pss_one (ps_ret pe_bl))))
theorem sc_L_other_size : FnScope N_L_other_size ["room", "other", "way"] (defScope s_L_other_size) := ⟨rfl, rfl, rfl, by decide +kernel, rfl, by decide +kernel, by decide +kernel⟩
theorem ok_L_other_size {f : Addr} {fd : FuncData} (T : Txt K mg g) (F : Fun K "_law_other_size" "_law_other_size" s_L_other_size f fd) (c_Room_init : CalI P w K mg base 5 g.Room ["self", "size"] (sp_Room_init K g)) (c_Room_number_of : CalM P w K mg base 4 g.Room "number_of" ["self", "a"] (sp_Room_number_of K g)) (c_Room_put_move : CalM P w K mg base 4 g.Room "put_move" ["self", "move"] (sp_Room_put_move K g)) (c_Room_reaches : CalM P w K mg base 4 g.Room "reaches" ["self", "a"] (sp_Room_reaches K g)) (c_Room_recipe : CalM P w K mg base 4 g.Room "recipe" ["self", "a"] (sp_Room_recipe K g)) (c_rest : Cal P w K mg base 2 "rest" ["size"] (sp_rest K g)) (c_then : Cal P w K mg base 3 "then" ["a", "b"] (sp_then K g)) (c_within : Cal P w K mg base 5 "within" ["room", "other"] (sp_within K g)) : FnOk P w K mg base (L2.CX P w) 7 f fd ["room", "other", "way"] (sp_L_other_size K g) := by
  refine F.okX sc_L_other_size (fun vs H Q E h => len_L_other_size K g vs H Q E h) (fun cdv A outer s H vs Q E hr h => ⟨t_L_other_size K g E, ?_, pure_L_other_size T.r_Room vs H Q E h⟩)
  have hu := hu_of hr
  have tkE : Takes (cxOf (L2.CX P w) P w K mg base N_L_other_size "_law_other_size" (defScope s_L_other_size) f cdv A outer s H E) (wE E) := takes_of rfl rfl rfl rfl
  exact (pss_one (ps_if (pt_cmpR op_eq (pv 2) pe_int (nomark _)) (pss_one (ps_expr (pe_calM (pv 0) T.cl_Room c_Room_reaches (hr.mono (by decide)) (fun σ => passAt tkE σ) (pa_cons (pv 1) pa_nil)))) (pss_one (ps_if (pt_cmpR op_eq (pv 2) pe_int (nomark _)) (pss_one (ps_expr (pe_calM (pv 0) T.cl_Room c_Room_recipe (hr.mono (by decide)) (fun σ => passAt tkE σ) (pa_cons (pv 1) pa_nil)))) (pss_one (ps_if (pt_cmpR op_eq (pv 2) pe_int (nomark _)) (pss_one (ps_expr (pe_calM (pv 0) T.cl_Room c_Room_number_of (hr.mono (by decide)) (fun σ => passAt tkE σ) (pa_cons (pv 1) pa_nil)))) (pss_one (ps_if (pt_cmpR op_eq (pv 2) pe_int (nomark _)) (pss_one (ps_expr (pe_calM (pv 0) T.cl_Room c_Room_put_move (hr.mono (by decide)) (fun σ => passAt tkE σ) (pa_cons (pv 1) pa_nil)))) (pss_one (ps_if (pt_cmpR op_eq (pv 2) pe_int (nomark _)) (pss_one (ps_expr (pe_cal c_then (hr.mono (by decide)) rfl (fun σ => passAt tkE σ) (pa_cons (pe_cal c_rest (hr.mono (by decide)) rfl (fun σ => passAt tkE σ) (pa_cons (pe_fld (pv 0) rfl) pa_nil)) (pa_cons (pv 1) pa_nil))))) (pss_one (ps_expr (pe_cal c_within (hr.mono (by decide)) rfl (fun σ => passAt tkE σ) (pa_cons (pv 0) (pa_cons (pe_mk c_Room_init (hr.mono (by decide)) rfl T.g_Room (fun σ => passAt tkE σ) (pa_cons (pe_callB call_len_seq (by rfl) T.z_len PySem.boot_len (pa_cons (pv 1) pa_nil)) pa_nil)) pa_nil)))))))))))))))
theorem sc_L_unreached : FnScope N_L_unreached ["size", "way"] (defScope s_L_unreached) := ⟨rfl, rfl, rfl, by decide +kernel, rfl, by decide +kernel, by decide +kernel⟩
theorem ok_L_unreached {f : Addr} {fd : FuncData} (T : Txt K mg g) (F : Fun K "_law_unreached" "_law_unreached" s_L_unreached f fd) (c_Room_init : CalI P w K mg base 5 g.Room ["self", "size"] (sp_Room_init K g)) (c_Room_number_of : CalM P w K mg base 4 g.Room "number_of" ["self", "a"] (sp_Room_number_of K g)) (c_Room_recipe : CalM P w K mg base 4 g.Room "recipe" ["self", "a"] (sp_Room_recipe K g)) : FnOk P w K mg base (L2.CX P w) 7 f fd ["size", "way"] (sp_L_unreached K g) := by
  refine F.okX sc_L_unreached (fun vs H Q E h => len_L_unreached K g vs H Q E h) (fun cdv A outer s H vs Q E hr h => ⟨t_L_unreached K g E, ?_, pure_L_unreached  vs H Q E h⟩)
  have hu := hu_of hr
  have tkE : Takes (cxOf (L2.CX P w) P w K mg base N_L_unreached "_law_unreached" (defScope s_L_unreached) f cdv A outer s H E) (wE E) := takes_of rfl rfl rfl rfl
  exact (pss_cons (ps_set (i := 2) sc_L_unreached.nd rfl (Or.inl rfl) (pe_mk c_Room_init (hr.mono (by decide)) rfl T.g_Room (fun σ => passAt tkE σ) (pa_cons (pe_op op_add (pv 0) pe_int) pa_nil)))
    (pss_cons (ps_set (i := 3) sc_L_unreached.nd rfl (Or.inl rfl) (pe_callTy call_tuple_of (by rfl) T.z_tuple (by decide +kernel) (pa_cons (pe_op op_cat (pe_lst (pa_cons pe_int (pa_cons pe_int pa_nil))) (pe_listRg rfl (by rfl) T.z_list (prg_2 (by rfl) T.z_range pe_int (pe_op op_add (pv 0) pe_int)))) pa_nil)))
    (pss_one (ps_if (pt_cmpR op_eq (pv 1) pe_int (nomark _)) (pss_one (ps_expr (pe_calM (pv 2) T.cl_Room c_Room_recipe (hr.mono (by decide)) (fun σ => passAt tkE σ) (pa_cons (pv 3) pa_nil)))) (pss_one (ps_expr (pe_calM (pv 2) T.cl_Room c_Room_number_of (hr.mono (by decide)) (fun σ => passAt tkE σ) (pa_cons (pv 3) pa_nil))))))))
theorem sc_many_times : FnScope N_many_times ["dyes", "count"] (defScope s_many_times) := ⟨rfl, rfl, rfl, by decide +kernel, rfl, by decide +kernel, by decide +kernel⟩
theorem ok_many_times {f : Addr} {fd : FuncData} (T : Txt K mg g) (F : Fun K "many_times" "many_times" s_many_times f fd)  : FnOk P w K mg base (L2.CX P w) 1 f fd ["dyes", "count"] (sp_many_times K g) := by
  refine F.okX sc_many_times (fun vs H Q E h => len_many_times K g vs H Q E h) (fun cdv A outer s H vs Q E hr h => ⟨t_many_times K g E, ?_, pure_many_times  vs H Q E h⟩)
  have hu := hu_of hr
  have tkE : Takes (cxOf (L2.CX P w) P w K mg base N_many_times "many_times" (defScope s_many_times) f cdv A outer s H E) (wE E) := takes_of rfl rfl rfl rfl
  exact (pss_cons (ps_set (i := 2) sc_many_times.nd rfl (Or.inl rfl) pe_int)
    (pss_cons (ps_for (passes_of rfl) rfl (pi_range1 (by rfl) T.z_range (pa_cons (pv 1) pa_nil)) (pg_name (i := 3) sc_many_times.nd rfl (Or.inl rfl)) (pss_one (ps_set (i := 2) sc_many_times.nd rfl (Or.inl rfl) (pe_op op_mul (pv 2) (pv 0)))))
    (pss_one (ps_ret (pv 2)))))
theorem sc_dyed : FnScope N_dyed ["room", "dyes"] (defScope s_dyed) := ⟨rfl, rfl, rfl, by decide +kernel, rfl, by decide +kernel, by decide +kernel⟩
theorem ok_dyed {f : Addr} {fd : FuncData} (T : Txt K mg g) (F : Fun K "dyed" "dyed" s_dyed f fd) (c_Room_how_many : CalM P w K mg base 1 g.Room "how_many" ["self"] (sp_Room_how_many K g)) (c_Room_numbered : CalM P w K mg base 3 g.Room "numbered" ["self", "n"] (sp_Room_numbered K g)) (c_many_times : Cal P w K mg base 1 "many_times" ["dyes", "count"] (sp_many_times K g)) (c_rings : Cal P w K mg base 3 "rings" ["a"] (sp_rings K g)) : FnOk P w K mg base (L2.CX P w) 4 f fd ["room", "dyes"] (sp_dyed K g) := by
  refine F.okX sc_dyed (fun vs H Q E h => len_dyed K g vs H Q E h) (fun cdv A outer s H vs Q E hr h => ⟨t_dyed K g E, ?_, pure_dyed T.r_Room T.r_Book vs H Q E h⟩)
  have hu := hu_of hr
  have tkE : Takes (cxOf (L2.CX P w) P w K mg base N_dyed "dyed" (defScope s_dyed) f cdv A outer s H E) (wE E) := takes_of rfl rfl rfl rfl
  exact (pss_cons (ps_if (PW.pt (pw_or (pt_cmpR op_lt (pv 1) pe_int (nomark _)) (pw_or1 (pt_cmpR op_gt (pv 1) pe_int (nomark _))))) (pss_one (ps_raise rfl tkE (pmk_own PySem.F.excBase_ValueError T.x_NoNumber.ex T.x_NoNumber.gC T.x_NoNumber.kC (raises_own T.x_NoNumber.bC T.x_NoNumber.tC) rfl))) pss_nil)
    (pss_cons (ps_set (i := 2) sc_dyed.nd rfl (Or.inl rfl) (pe_calM0 (pv 0) T.cl_Room c_Room_how_many (hr.mono (by decide)) (fun σ => passE0 σ)))
    (pss_cons (ps_if (pt_cmpR op_gt (pv 2) (pe_globI T.c_WIDE) (nomark _)) (pss_one (ps_raise rfl tkE (pmk_own PySem.F.excBase_ValueError T.x_TooWide.ex T.x_TooWide.gC T.x_TooWide.kC (raises_own T.x_TooWide.bC T.x_TooWide.tC) rfl))) pss_nil)
    (pss_cons (ps_set (i := 3) sc_dyed.nd rfl (Or.inl rfl) pe_int)
    (pss_cons (ps_for (passes_of rfl) rfl (pi_range1 (by rfl) T.z_range (pa_cons (pv 2) pa_nil)) (pg_name (i := 4) sc_dyed.nd rfl (Or.inl rfl)) (pss_cons (ps_set (i := 5) sc_dyed.nd rfl (Or.inl rfl) (pe_fld (pv 0) rfl))
    (pss_cons (ps_for (passes_of rfl) rfl (pi_list (pe_cal c_rings (hr.mono (by decide)) rfl (fun σ => passAt tkE σ) (pa_cons (pe_calM (pv 0) T.cl_Room c_Room_numbered (hr.mono (by decide)) (fun σ => passAt tkE σ) (pa_cons (pv 4) pa_nil)) pa_nil))) (pg_name (i := 6) sc_dyed.nd rfl (Or.inl rfl)) (pss_one (ps_set (i := 5) sc_dyed.nd rfl (Or.inl rfl) (pe_op op_add (pe_op op_sub (pv 5) (pe_callB call_len_seq (by rfl) T.z_len PySem.boot_len (pa_cons (pv 6) pa_nil))) pe_int))))
    (pss_one (ps_set (i := 3) sc_dyed.nd rfl (Or.inl rfl) (pe_op op_add (pv 3) (pe_cal c_many_times (hr.mono (by decide)) rfl (fun σ => passE0 σ) (pa_cons (pv 1) (pa_cons (pv 5) pa_nil)))))))))
    (pss_one (ps_ret (pe_op op_fdivW (pv 3) (pv 2)))))))))
theorem sc_L_wide_k21 : FnScope N_L_wide_k21 [] (defScope s_L_wide_k21) := ⟨rfl, rfl, rfl, by decide +kernel, rfl, by decide +kernel, by decide +kernel⟩
theorem ok_L_wide_k21 {f : Addr} {fd : FuncData} (T : Txt K mg g) (F : Fun K "_law_wide" "_law_wide" s_L_wide_k21 f fd) (c_Room_init : CalI P w K mg base 5 g.Room ["self", "size"] (sp_Room_init K g)) (c_Room_put_move : CalM P w K mg base 4 g.Room "put_move" ["self", "move"] (sp_Room_put_move K g)) (c_dyed : Cal P w K mg base 4 "dyed" ["room", "dyes"] (sp_dyed K g)) : FnOk P w K mg base (L2.CX P w) 7 f fd [] (sp_L_wide_k21 K g) := by
  refine F.okX sc_L_wide_k21 (fun vs H Q E h => len_L_wide_k21 K g vs H Q E h) (fun cdv A outer s H vs Q E hr h => ⟨t_L_wide_k21 K g E, ?_, pure_L_wide_k21  vs H Q E h⟩)
  have hu := hu_of hr
  have tkE : Takes (cxOf (L2.CX P w) P w K mg base N_L_wide_k21 "_law_wide" (defScope s_L_wide_k21) f cdv A outer s H E) (wE E) := takes_of rfl rfl rfl rfl
  exact (pss_cons (ps_set (i := 0) sc_L_wide_k21.nd rfl (Or.inl rfl) (pe_mk c_Room_init (hr.mono (by decide)) rfl T.g_Room (fun σ => passAt tkE σ) (pa_cons pe_int pa_nil)))
    (pss_cons (ps_expr (pe_calM (pv 0) T.cl_Room c_Room_put_move (hr.mono (by decide)) (fun σ => passAt tkE σ) (pa_cons (pe_tup (pa_cons pe_int (pa_cons pe_int (pa_cons pe_int (pa_cons pe_int (pa_cons pe_int (pa_cons pe_int (pa_cons pe_int pa_nil)))))))) pa_nil)))
    (pss_cons (ps_expr (pe_calM (pv 0) T.cl_Room c_Room_put_move (hr.mono (by decide)) (fun σ => passAt tkE σ) (pa_cons (pe_tup (pa_cons pe_int (pa_cons pe_int (pa_cons pe_int (pa_cons pe_int (pa_cons pe_int (pa_cons pe_int (pa_cons pe_int pa_nil)))))))) pa_nil)))
    (pss_one (ps_expr (pe_cal c_dyed (hr.mono (by decide)) rfl (fun σ => passAt tkE σ) (pa_cons (pv 0) (pa_cons pe_int pa_nil))))))))
theorem sc_L_done : FnScope N_L_done ["way", "size", "cell", "far"] (defScope s_L_done) := ⟨rfl, rfl, rfl, by decide +kernel, rfl, by decide +kernel, by decide +kernel⟩
theorem ok_L_done {f : Addr} {fd : FuncData} (T : Txt K mg g) (F : Fun K "_law_done" "_law_done" s_L_done f fd) (c_Room_init : CalI P w K mg base 5 g.Room ["self", "size"] (sp_Room_init K g)) (c_Room_numbered : CalM P w K mg base 3 g.Room "numbered" ["self", "n"] (sp_Room_numbered K g)) (c_L_bad_k21 : Cal P w K mg base 1 "_law_bad" ["cell"] (sp_L_bad_k21 K g)) (c_L_far : Cal P w K mg base 1 "_law_far" ["cell", "size"] (sp_L_far K g)) (c_L_full_k21 : Cal P w K mg base 7 "_law_full" ["size"] (sp_L_full_k21 K g)) (c_L_no_seat : Cal P w K mg base 8 "_law_no_seat" ["room", "seat", "way"] (sp_L_no_seat K g)) (c_L_no_seating : Cal P w K mg base 6 "_law_no_seating" ["room", "bad", "way"] (sp_L_no_seating K g)) (c_L_no_size : Cal P w K mg base 7 "_law_no_size" ["cell", "far"] (sp_L_no_size K g)) (c_L_other_size : Cal P w K mg base 7 "_law_other_size" ["room", "other", "way"] (sp_L_other_size K g)) (c_L_unreached : Cal P w K mg base 7 "_law_unreached" ["size", "way"] (sp_L_unreached K g)) (c_L_wide_k21 : Cal P w K mg base 7 "_law_wide" [] (sp_L_wide_k21 K g)) (c_dyed : Cal P w K mg base 4 "dyed" ["room", "dyes"] (sp_dyed K g)) (c_read : Cal P w K mg base 3 "read" ["text", "size"] (sp_read K g)) : FnOk P w K mg base (L2.CX P w) 9 f fd ["way", "size", "cell", "far"] (sp_L_done K g) := by
  refine F.okX sc_L_done (fun vs H Q E h => len_L_done K g vs H Q E h) (fun cdv A outer s H vs Q E hr h => ⟨t_L_done K g E, ?_, pure_L_done  vs H Q E h⟩)
  have hu := hu_of hr
  have tkE : Takes (cxOf (L2.CX P w) P w K mg base N_L_done "_law_done" (defScope s_L_done) f cdv A outer s H E) (wE E) := takes_of rfl rfl rfl rfl
  exact (pss_cons (ps_set (i := 4) sc_L_done.nd rfl (Or.inl rfl) (pe_mk c_Room_init (hr.mono (by decide)) rfl T.g_Room (fun σ => passAt tkE σ) (pa_cons (pv 1) pa_nil)))
    (pss_one (ps_if (pt_cmpR op_eq (pv 0) pe_int (nomark _)) (pss_one (ps_expr (pe_cal c_L_no_size (hr.mono (by decide)) rfl (fun σ => passAt tkE σ) (pa_cons (pv 2) (pa_cons (pv 3) pa_nil))))) (pss_one (ps_if (pt_cmpR op_eq (pv 0) pe_int (nomark _)) (pss_one (ps_expr (pe_cal c_L_no_seating (hr.mono (by decide)) rfl (fun σ => passAt tkE σ) (pa_cons (pv 4) (pa_cons (pe_cal c_L_bad_k21 (hr.mono (by decide)) rfl (fun σ => passE0 σ) (pa_cons (pv 3) pa_nil)) (pa_cons (pe_op op_modN (pv 2) pe_int) pa_nil)))))) (pss_one (ps_if (pt_cmpR op_eq (pv 0) pe_int (nomark _)) (pss_one (ps_expr (pe_cal c_L_other_size (hr.mono (by decide)) rfl (fun σ => passAt tkE σ) (pa_cons (pv 4) (pa_cons (pe_cal c_L_far (hr.mono (by decide)) rfl (fun σ => passE0 σ) (pa_cons (pv 3) (pa_cons (pe_op op_add pe_int (pe_op op_modN (pe_op op_add (pv 1) (pe_op op_modN (pe_op op_fdivW (pv 2) pe_int) pe_int)) pe_int)) pa_nil))) (pa_cons (pe_op op_modN (pv 2) pe_int) pa_nil)))))) (pss_one (ps_if (pt_cmpR op_eq (pv 0) pe_int (nomark _)) (pss_one (ps_expr (pe_cal c_L_no_seat (hr.mono (by decide)) rfl (fun σ => passAt tkE σ) (pa_cons (pv 4) (pa_cons (pe_ix ix_list (pe_lst (pa_cons (pe_op op_sub (pe_un un_neg pe_int) (pv 3)) (pa_cons (pv 1) (pa_cons (pe_op op_add (pv 1) (pv 3)) pa_nil)))) (pe_op op_modN (pe_op op_fdivW (pv 2) pe_int) pe_int) (fun _ _ => rfl)) (pa_cons (pe_op op_modN (pv 2) pe_int) pa_nil)))))) (pss_one (ps_if (PW.pt (pw_and (pt_cmpR op_eq (pv 0) pe_int (nomark _)) (pw_and1 (pt_cmpR op_eq (pe_op op_modN (pv 2) pe_int) pe_int (nomark _))))) (pss_one (ps_expr (pe_calM (pv 4) T.cl_Room c_Room_numbered (hr.mono (by decide)) (fun σ => passAt tkE σ) (pa_cons (pe_ix ix_list (pe_lst (pa_cons (pe_op op_sub (pe_un un_neg pe_int) (pv 3)) (pa_cons pe_int (pa_cons (pe_op op_add pe_int (pv 3)) pa_nil)))) (pe_op op_modN (pe_op op_fdivW (pv 2) pe_int) pe_int) (fun _ _ => rfl)) pa_nil)))) (pss_one (ps_if (pt_cmpR op_eq (pv 0) pe_int (nomark _)) (pss_one (ps_expr (pe_cal c_dyed (hr.mono (by decide)) rfl (fun σ => passAt tkE σ) (pa_cons (pv 4) (pa_cons (pe_ix ix_list (pe_lst (pa_cons (pe_un un_neg (pv 3)) (pa_cons pe_int (pa_cons pe_int (pa_cons (pe_op op_add pe_int (pv 3)) pa_nil))))) (pe_op op_modN (pe_op op_fdivW (pv 2) pe_int) pe_int) (fun _ _ => rfl)) pa_nil))))) (pss_one (ps_if (pt_cmpR op_eq (pv 0) pe_int (nomark _)) (pss_one (ps_expr (pe_cal c_L_full_k21 (hr.mono (by decide)) rfl (fun σ => passAt tkE σ) (pa_cons (pv 1) pa_nil)))) (pss_one (ps_if (pt_cmpR op_eq (pv 0) pe_int (nomark _)) (pss_one (ps_expr (pe_cal c_L_unreached (hr.mono (by decide)) rfl (fun σ => passAt tkE σ) (pa_cons (pe_op op_add pe_int (pe_op op_modN (pv 1) pe_int)) (pa_cons (pe_op op_modN (pv 2) pe_int) pa_nil))))) (pss_one (ps_if (pt_cmpR op_eq (pv 0) pe_int (nomark _)) (pss_one (ps_expr (pe_cal0 c_L_wide_k21 (hr.mono (by decide)) rfl (fun σ => passAt tkE σ)))) (pss_one (ps_expr (pe_cal c_read (hr.mono (by decide)) rfl (fun σ => passAt tkE σ) (pa_cons (pe_ix ix_list (pe_lst (pa_cons pe_str (pa_cons pe_str (pa_cons pe_str (pa_cons pe_str (pa_cons pe_str pa_nil)))))) (pe_op op_modN (pv 2) pe_int) (fun _ _ => rfl)) (pa_cons (pv 1) pa_nil))))))))))))))))))))))))
theorem sc_L_which : FnScope N_L_which ["e"] (defScope s_L_which) := ⟨rfl, rfl, rfl, by decide +kernel, rfl, by decide +kernel, by decide +kernel⟩
theorem ok_L_which {f : Addr} {fd : FuncData} (T : Txt K mg g) (F : Fun K "_law_which" "_law_which" s_L_which f fd) (hm : mg "_law_which" = some (.ref f)) (hk : PySem.W.keepIn K (.ref f) = true) (hb : Binds K fd ["e"] []) : CalE P w K mg base 1 "_law_which" "e" (sp_L_which K g) := by
  refine CalE.mk hm hk hb F sc_L_which (fun cdv A outer s H a D oe Q hz hf h => ⟨t_L_which K g D a, ?_, pure_L_which  D a H Q h⟩)
  exact (pss_cons (ps_set (i := 1) sc_L_which.nd rfl (Or.inl rfl) (pe_lst (pa_cons (pe_callB (call_isL List.mem_cons_self hz hf) (by rfl) T.z_isinstance (by decide +kernel) (pa_cons (pv 0) (pa_cons (pe_glob rfl T.g_NoSize rfl) pa_nil))) (pa_cons (pe_callB (call_isL List.mem_cons_self hz hf) (by rfl) T.z_isinstance (by decide +kernel) (pa_cons (pv 0) (pa_cons (pe_glob rfl T.g_NoSeating rfl) pa_nil))) (pa_cons (pe_callB (call_isL List.mem_cons_self hz hf) (by rfl) T.z_isinstance (by decide +kernel) (pa_cons (pv 0) (pa_cons (pe_glob rfl T.g_OtherSize rfl) pa_nil))) (pa_cons (pe_callB (call_isL List.mem_cons_self hz hf) (by rfl) T.z_isinstance (by decide +kernel) (pa_cons (pv 0) (pa_cons (pe_glob rfl T.g_NoSeat rfl) pa_nil))) pa_nil))))))
    (pss_cons (ps_set (i := 2) sc_L_which.nd rfl (Or.inl rfl) (pe_lst (pa_cons (pe_callB (call_isL List.mem_cons_self hz hf) (by rfl) T.z_isinstance (by decide +kernel) (pa_cons (pv 0) (pa_cons (pe_glob rfl T.g_NoNumber rfl) pa_nil))) (pa_cons (pe_callB (call_isL List.mem_cons_self hz hf) (by rfl) T.z_isinstance (by decide +kernel) (pa_cons (pv 0) (pa_cons (pe_glob rfl T.g_TooMany rfl) pa_nil))) (pa_cons (pe_callB (call_isL List.mem_cons_self hz hf) (by rfl) T.z_isinstance (by decide +kernel) (pa_cons (pv 0) (pa_cons (pe_glob rfl T.g_Unreached rfl) pa_nil))) pa_nil)))))
    (pss_one (ps_ret (pe_op op_cat (pe_op op_cat (pv 1) (pv 2)) (pe_lst (pa_cons (pe_callB (call_isL List.mem_cons_self hz hf) (by rfl) T.z_isinstance (by decide +kernel) (pa_cons (pv 0) (pa_cons (pe_glob rfl T.g_TooWide rfl) pa_nil))) (pa_cons (pe_callB (call_isL List.mem_cons_self hz hf) (by rfl) T.z_isinstance (by decide +kernel) (pa_cons (pv 0) (pa_cons (pe_glob rfl T.g_NotRead rfl) pa_nil))) (pa_cons (pe_not (pe_callB (call_isL List.mem_cons_self hz hf) (by rfl) T.z_isinstance (by decide +kernel) (pa_cons (pv 0) (pa_cons (pe_bltn (by rfl) T.z_ValueError (by decide +kernel) rfl) pa_nil)))) pa_nil)))))))))
theorem sc_law_k21 : FnScope N_law_k21 ["script"] (defScope s_law_k21) := ⟨rfl, rfl, rfl, by decide +kernel, rfl, by decide +kernel, by decide +kernel⟩
theorem ok_law_k21 {f : Addr} {fd : FuncData} (T : Txt K mg g) (F : Fun K "law" "law" s_law_k21 f fd) (c_L_cell_at : Cal P w K mg base 1 "_law_cell_at" ["script", "k"] (sp_L_cell_at K g)) (c_L_done : Cal P w K mg base 9 "_law_done" ["way", "size", "cell", "far"] (sp_L_done K g)) (c_L_which : CalE P w K mg base 1 "_law_which" "e" (sp_L_which K g)) : FnOk P w K mg base (L2.CX P w) 10 f fd ["script"] (sp_law K) := by
  refine F.okX sc_law_k21 (fun vs H Q E h => len_law K g vs H Q E h) (fun cdv A outer s H vs Q E hr h => ⟨t_law_k21 K g E, ?_, pure_law_k21 T.m_NoSize_RoomError T.e_NoSize T.k_NoSize_NoSize T.k_NoSize_NoSeating T.k_NoSize_OtherSize T.k_NoSize_NoSeat T.k_NoSize_NoNumber T.k_NoSize_TooMany T.k_NoSize_Unreached T.k_NoSize_TooWide T.k_NoSize_NotRead T.k_NoSize_ValueError T.m_NoSeating_RoomError T.e_NoSeating T.k_NoSeating_NoSize T.k_NoSeating_NoSeating T.k_NoSeating_OtherSize T.k_NoSeating_NoSeat T.k_NoSeating_NoNumber T.k_NoSeating_TooMany T.k_NoSeating_Unreached T.k_NoSeating_TooWide T.k_NoSeating_NotRead T.k_NoSeating_ValueError T.m_OtherSize_RoomError T.e_OtherSize T.k_OtherSize_NoSize T.k_OtherSize_NoSeating T.k_OtherSize_OtherSize T.k_OtherSize_NoSeat T.k_OtherSize_NoNumber T.k_OtherSize_TooMany T.k_OtherSize_Unreached T.k_OtherSize_TooWide T.k_OtherSize_NotRead T.k_OtherSize_ValueError T.m_NoSeat_RoomError T.e_NoSeat T.k_NoSeat_NoSize T.k_NoSeat_NoSeating T.k_NoSeat_OtherSize T.k_NoSeat_NoSeat T.k_NoSeat_NoNumber T.k_NoSeat_TooMany T.k_NoSeat_Unreached T.k_NoSeat_TooWide T.k_NoSeat_NotRead T.k_NoSeat_ValueError T.m_NoNumber_RoomError T.e_NoNumber T.k_NoNumber_NoSize T.k_NoNumber_NoSeating T.k_NoNumber_OtherSize T.k_NoNumber_NoSeat T.k_NoNumber_NoNumber T.k_NoNumber_TooMany T.k_NoNumber_Unreached T.k_NoNumber_TooWide T.k_NoNumber_NotRead T.k_NoNumber_ValueError T.m_TooMany_RoomError T.e_TooMany T.k_TooMany_NoSize T.k_TooMany_NoSeating T.k_TooMany_OtherSize T.k_TooMany_NoSeat T.k_TooMany_NoNumber T.k_TooMany_TooMany T.k_TooMany_Unreached T.k_TooMany_TooWide T.k_TooMany_NotRead T.k_TooMany_ValueError T.m_Unreached_RoomError T.e_Unreached T.k_Unreached_NoSize T.k_Unreached_NoSeating T.k_Unreached_OtherSize T.k_Unreached_NoSeat T.k_Unreached_NoNumber T.k_Unreached_TooMany T.k_Unreached_Unreached T.k_Unreached_TooWide T.k_Unreached_NotRead T.k_Unreached_ValueError T.m_TooWide_RoomError T.e_TooWide T.k_TooWide_NoSize T.k_TooWide_NoSeating T.k_TooWide_OtherSize T.k_TooWide_NoSeat T.k_TooWide_NoNumber T.k_TooWide_TooMany T.k_TooWide_Unreached T.k_TooWide_TooWide T.k_TooWide_NotRead T.k_TooWide_ValueError T.m_NotRead_RoomError T.e_NotRead T.k_NotRead_NoSize T.k_NotRead_NoSeating T.k_NotRead_OtherSize T.k_NotRead_NoSeat T.k_NotRead_NoNumber T.k_NotRead_TooMany T.k_NotRead_Unreached T.k_NotRead_TooWide T.k_NotRead_NotRead T.k_NotRead_ValueError vs H Q E h⟩)
  have hu := hu_of hr
  have tkE : Takes (cxOf (L2.CX P w) P w K mg base N_law_k21 "law" (defScope s_law_k21) f cdv A outer s H E) (wE E) := takes_of rfl rfl rfl rfl
  exact (pss_cons (ps_set (i := 1) sc_law_k21.nd rfl (Or.inr rfl) (pe_op op_modN (pe_cal c_L_cell_at (hr.mono (by decide)) rfl (fun σ => passE0 σ) (pa_cons (pv 0) (pa_cons pe_int pa_nil))) pe_int))
    (pss_cons (ps_set (i := 2) sc_law_k21.nd rfl (Or.inl rfl) (pe_op op_add pe_int (pe_op op_modN (pe_op op_fdivW (pe_cal c_L_cell_at (hr.mono (by decide)) rfl (fun σ => passE0 σ) (pa_cons (pv 0) (pa_cons pe_int pa_nil))) pe_int) pe_int)))
    (pss_cons (ps_set (i := 3) sc_law_k21.nd rfl (Or.inl rfl) (pe_op op_modN (pe_cal c_L_cell_at (hr.mono (by decide)) rfl (fun σ => passE0 σ) (pa_cons (pv 0) (pa_cons pe_int pa_nil))) (pe_op op_pow pe_int pe_int)))
    (pss_cons (ps_set (i := 4) sc_law_k21.nd rfl (Or.inl rfl) (pe_lst pa_nil))
    (pss_cons (ps_try_as (i := 5) (tb := fun W => (tDrop (tCallS (sp_L_done K g) (WE W) (tCons (tVar 1) (tCons (tVar 2) (tCons (tCallS (sp_L_cell_at K g) (fun _ => E0) (tCons (tVar 0) (tCons (tC (.int 1)) tNil))) (tCons (tVar 3) tNil))))))) (ts := fun a cls d => (tAsg (tLend cls d a 5 (sp_L_which K g)) (gName 4))) (Wout := wE E) rfl rfl sc_law_k21.nd rfl rfl ⟨rfl, by decide, .inl T.g_RoomError⟩ tkE (fun W pn xe tk po => (pss_one (ps_expr (pe_cal c_L_done (hr.mono (by decide)) rfl (fun σ => passAt tk σ) (pa_cons (pv 1) (pa_cons (pv 2) (pa_cons (pe_cal c_L_cell_at (hr.mono (by decide)) rfl (fun σ => passE0 σ) (pa_cons (pv 0) (pa_cons pe_int pa_nil))) (pa_cons (pv 3) pa_nil)))))))) (fun a oe cls d pn hz hf => (pss_one (ps_set (i := 4) sc_law_k21.nd rfl (Or.inl rfl) (pe_lend c_L_which (hr.mono (by decide)) rfl hz hf (pv 5))))))
    (pss_one (ps_ret (pe_cmpR (op_eqD hr.units) (pv 4) (pe_op op_cat (pe_lc (own := [("k", 6)]) (g := gName 6) rfl sc_law_k21.nd (pi_range1 (by rfl) T.z_range (pa_cons pe_int pa_nil)) (blkOk_by (own := [("k", 6)]) (N := N_law_k21) (sc := defScope s_law_k21) (by decide +kernel)) (fun _ _ _ _ _ => pg_name (i := 6) sc_law_k21.nd rfl (Or.inl rfl)) (fun _ _ _ _ _ => pts_nil) (fun _ _ _ _ _ => (pe_cmpR op_eq (pv 6) (pv 1) (nomark _)))) (pe_lst (pa_cons pe_bl pa_nil))) (nomark _)))))))))
end
theorem all_mk {l : PySem.W.OpenLaw} {w : World} {K : PySem.W.Frag} {h : Heap} {mg : Str → Option Value} {fa : Addr} {D_NoNumber : Addr} {D_NoSeat : Addr} {D_NoSeating : Addr} {D_NoSize : Addr} {D_NotRead : Addr} {D_OtherSize : Addr} {D_RoomError : Addr} {D_TooMany : Addr} {D_TooWide : Addr} {D_Unreached : Addr} {D_Book : Addr} {D_Room : Addr} (X : K.In h) (G : h.Ns mainGlobals mg) (hfa : mg "law" = some (.ref fa))
    {tk_FIGURES : Tok}
    {tk_MANY : Tok}
    {tk_MOST : Tok}
    {tk_WIDE : Tok}
    {f_L_cell_at : Addr} {od_L_cell_at an_L_cell_at : Option Addr} {sl_L_cell_at : Array (Option Value)} {oc_L_cell_at kV_L_cell_at dc_L_cell_at pm_L_cell_at cd_L_cell_at ct_L_cell_at : Value}
    {f_ask_size : Addr} {od_ask_size an_ask_size : Option Addr} {sl_ask_size : Array (Option Value)} {oc_ask_size kV_ask_size dc_ask_size pm_ask_size cd_ask_size ct_ask_size : Value}
    {f_rest : Addr} {od_rest an_rest : Option Addr} {sl_rest : Array (Option Value)} {oc_rest kV_rest dc_rest pm_rest cd_rest ct_rest : Value}
    {f_Book_init : Addr} {od_Book_init an_Book_init : Option Addr} {sl_Book_init : Array (Option Value)} {oc_Book_init kV_Book_init dc_Book_init pm_Book_init cd_Book_init ct_Book_init : Value}
    {f_Room_init : Addr} {od_Room_init an_Room_init : Option Addr} {sl_Room_init : Array (Option Value)} {oc_Room_init kV_Room_init dc_Room_init pm_Room_init cd_Room_init ct_Room_init : Value}
    {f_Room_how_many : Addr} {od_Room_how_many an_Room_how_many : Option Addr} {sl_Room_how_many : Array (Option Value)} {oc_Room_how_many kV_Room_how_many dc_Room_how_many pm_Room_how_many cd_Room_how_many ct_Room_how_many : Value}
    {f_joined : Addr} {od_joined an_joined : Option Addr} {sl_joined : Array (Option Value)} {oc_joined kV_joined dc_joined pm_joined cd_joined ct_joined : Value}
    {f_Room_numbered : Addr} {od_Room_numbered an_Room_numbered : Option Addr} {sl_Room_numbered : Array (Option Value)} {oc_Room_numbered kV_Room_numbered dc_Room_numbered pm_Room_numbered cd_Room_numbered ct_Room_numbered : Value}
    {f_L_bad_k21 : Addr} {od_L_bad_k21 an_L_bad_k21 : Option Addr} {sl_L_bad_k21 : Array (Option Value)} {oc_L_bad_k21 kV_L_bad_k21 dc_L_bad_k21 pm_L_bad_k21 cd_L_bad_k21 ct_L_bad_k21 : Value}
    {f_L_far : Addr} {od_L_far an_L_far : Option Addr} {sl_L_far : Array (Option Value)} {oc_L_far kV_L_far dc_L_far pm_L_far cd_L_far ct_L_far : Value}
    {f_Book_note : Addr} {od_Book_note an_Book_note : Option Addr} {sl_Book_note : Array (Option Value)} {oc_Book_note kV_Book_note dc_Book_note pm_Book_note cd_Book_note ct_Book_note : Value}
    {f_turned : Addr} {od_turned an_turned : Option Addr} {sl_turned : Array (Option Value)} {oc_turned kV_turned dc_turned pm_turned cd_turned ct_turned : Value}
    {f_Book_keep : Addr} {od_Book_keep an_Book_keep : Option Addr} {sl_Book_keep : Array (Option Value)} {oc_Book_keep kV_Book_keep dc_Book_keep pm_Book_keep cd_Book_keep ct_Book_keep : Value}
    {f_Book_sifted : Addr} {od_Book_sifted an_Book_sifted : Option Addr} {sl_Book_sifted : Array (Option Value)} {oc_Book_sifted kV_Book_sifted dc_Book_sifted pm_Book_sifted cd_Book_sifted ct_Book_sifted : Value}
    {f_Book_close : Addr} {od_Book_close an_Book_close : Option Addr} {sl_Book_close : Array (Option Value)} {oc_Book_close kV_Book_close dc_Book_close pm_Book_close cd_Book_close ct_Book_close : Value}
    {f_is_seating : Addr} {od_is_seating an_is_seating : Option Addr} {sl_is_seating : Array (Option Value)} {oc_is_seating kV_is_seating dc_is_seating pm_is_seating cd_is_seating ct_is_seating : Value}
    {f_ask_seating : Addr} {od_ask_seating an_ask_seating : Option Addr} {sl_ask_seating : Array (Option Value)} {oc_ask_seating kV_ask_seating dc_ask_seating pm_ask_seating cd_ask_seating ct_ask_seating : Value}
    {f_Room_ask : Addr} {od_Room_ask an_Room_ask : Option Addr} {sl_Room_ask : Array (Option Value)} {oc_Room_ask kV_Room_ask dc_Room_ask pm_Room_ask cd_Room_ask ct_Room_ask : Value}
    {f_Room_put_move : Addr} {od_Room_put_move an_Room_put_move : Option Addr} {sl_Room_put_move : Array (Option Value)} {oc_Room_put_move kV_Room_put_move dc_Room_put_move pm_Room_put_move cd_Room_put_move ct_Room_put_move : Value}
    {f_L_full_k21 : Addr} {od_L_full_k21 an_L_full_k21 : Option Addr} {sl_L_full_k21 : Array (Option Value)} {oc_L_full_k21 kV_L_full_k21 dc_L_full_k21 pm_L_full_k21 cd_L_full_k21 ct_L_full_k21 : Value}
    {f_Room_table : Addr} {od_Room_table an_Room_table : Option Addr} {sl_Room_table : Array (Option Value)} {oc_Room_table kV_Room_table dc_Room_table pm_Room_table cd_Room_table ct_Room_table : Value}
    {f_ask_seat : Addr} {od_ask_seat an_ask_seat : Option Addr} {sl_ask_seat : Array (Option Value)} {oc_ask_seat kV_ask_seat dc_ask_seat pm_ask_seat cd_ask_seat ct_ask_seat : Value}
    {f_holding : Addr} {od_holding an_holding : Option Addr} {sl_holding : Array (Option Value)} {oc_holding kV_holding dc_holding pm_holding cd_holding ct_holding : Value}
    {f_Room_moves : Addr} {od_Room_moves an_Room_moves : Option Addr} {sl_Room_moves : Array (Option Value)} {oc_Room_moves kV_Room_moves dc_Room_moves pm_Room_moves cd_Room_moves ct_Room_moves : Value}
    {f_one_part : Addr} {od_one_part an_one_part : Option Addr} {sl_one_part : Array (Option Value)} {oc_one_part kV_one_part dc_one_part pm_one_part cd_one_part ct_one_part : Value}
    {f_parting : Addr} {od_parting an_parting : Option Addr} {sl_parting : Array (Option Value)} {oc_parting kV_parting dc_parting pm_parting cd_parting ct_parting : Value}
    {f_ring_of : Addr} {od_ring_of an_ring_of : Option Addr} {sl_ring_of : Array (Option Value)} {oc_ring_of kV_ring_of dc_ring_of pm_ring_of cd_ring_of ct_ring_of : Value}
    {f_L_no_seat : Addr} {od_L_no_seat an_L_no_seat : Option Addr} {sl_L_no_seat : Array (Option Value)} {oc_L_no_seat kV_L_no_seat dc_L_no_seat pm_L_no_seat cd_L_no_seat ct_L_no_seat : Value}
    {f_Room_number_of : Addr} {od_Room_number_of an_Room_number_of : Option Addr} {sl_Room_number_of : Array (Option Value)} {oc_Room_number_of kV_Room_number_of dc_Room_number_of pm_Room_number_of cd_Room_number_of ct_Room_number_of : Value}
    {f_Room_reaches : Addr} {od_Room_reaches an_Room_reaches : Option Addr} {sl_Room_reaches : Array (Option Value)} {oc_Room_reaches kV_Room_reaches dc_Room_reaches pm_Room_reaches cd_Room_reaches ct_Room_reaches : Value}
    {f_Room_recipe : Addr} {od_Room_recipe an_Room_recipe : Option Addr} {sl_Room_recipe : Array (Option Value)} {oc_Room_recipe kV_Room_recipe dc_Room_recipe pm_Room_recipe cd_Room_recipe ct_Room_recipe : Value}
    {f_rings : Addr} {od_rings an_rings : Option Addr} {sl_rings : Array (Option Value)} {oc_rings kV_rings dc_rings pm_rings cd_rings ct_rings : Value}
    {f_shared : Addr} {od_shared an_shared : Option Addr} {sl_shared : Array (Option Value)} {oc_shared kV_shared dc_shared pm_shared cd_shared ct_shared : Value}
    {f_age : Addr} {od_age an_age : Option Addr} {sl_age : Array (Option Value)} {oc_age kV_age dc_age pm_age cd_age ct_age : Value}
    {f_back : Addr} {od_back an_back : Option Addr} {sl_back : Array (Option Value)} {oc_back kV_back dc_back pm_back cd_back ct_back : Value}
    {f_even : Addr} {od_even an_even : Option Addr} {sl_even : Array (Option Value)} {oc_even kV_even dc_even pm_even cd_even ct_even : Value}
    {f_shown : Addr} {od_shown an_shown : Option Addr} {sl_shown : Array (Option Value)} {oc_shown kV_shown dc_shown pm_shown cd_shown ct_shown : Value}
    {f_then : Addr} {od_then an_then : Option Addr} {sl_then : Array (Option Value)} {oc_then kV_then dc_then pm_then cd_then ct_then : Value}
    {f_times : Addr} {od_times an_times : Option Addr} {sl_times : Array (Option Value)} {oc_times kV_times dc_times pm_times cd_times ct_times : Value}
    {f_L_no_seating : Addr} {od_L_no_seating an_L_no_seating : Option Addr} {sl_L_no_seating : Array (Option Value)} {oc_L_no_seating kV_L_no_seating dc_L_no_seating pm_L_no_seating cd_L_no_seating ct_L_no_seating : Value}
    {f_seat_of : Addr} {od_seat_of an_seat_of : Option Addr} {sl_seat_of : Array (Option Value)} {oc_seat_of kV_seat_of dc_seat_of pm_seat_of cd_seat_of ct_seat_of : Value}
    {f_read : Addr} {od_read an_read : Option Addr} {sl_read : Array (Option Value)} {oc_read kV_read dc_read pm_read cd_read ct_read : Value}
    {f_L_no_size : Addr} {od_L_no_size an_L_no_size : Option Addr} {sl_L_no_size : Array (Option Value)} {oc_L_no_size kV_L_no_size dc_L_no_size pm_L_no_size cd_L_no_size ct_L_no_size : Value}
    {f_within : Addr} {od_within an_within : Option Addr} {sl_within : Array (Option Value)} {oc_within kV_within dc_within pm_within cd_within ct_within : Value}
    {f_L_other_size : Addr} {od_L_other_size an_L_other_size : Option Addr} {sl_L_other_size : Array (Option Value)} {oc_L_other_size kV_L_other_size dc_L_other_size pm_L_other_size cd_L_other_size ct_L_other_size : Value}
    {f_L_unreached : Addr} {od_L_unreached an_L_unreached : Option Addr} {sl_L_unreached : Array (Option Value)} {oc_L_unreached kV_L_unreached dc_L_unreached pm_L_unreached cd_L_unreached ct_L_unreached : Value}
    {f_many_times : Addr} {od_many_times an_many_times : Option Addr} {sl_many_times : Array (Option Value)} {oc_many_times kV_many_times dc_many_times pm_many_times cd_many_times ct_many_times : Value}
    {f_dyed : Addr} {od_dyed an_dyed : Option Addr} {sl_dyed : Array (Option Value)} {oc_dyed kV_dyed dc_dyed pm_dyed cd_dyed ct_dyed : Value}
    {f_L_wide_k21 : Addr} {od_L_wide_k21 an_L_wide_k21 : Option Addr} {sl_L_wide_k21 : Array (Option Value)} {oc_L_wide_k21 kV_L_wide_k21 dc_L_wide_k21 pm_L_wide_k21 cd_L_wide_k21 ct_L_wide_k21 : Value}
    {f_L_done : Addr} {od_L_done an_L_done : Option Addr} {sl_L_done : Array (Option Value)} {oc_L_done kV_L_done dc_L_done pm_L_done cd_L_done ct_L_done : Value}
    {f_L_which : Addr} {od_L_which an_L_which : Option Addr} {sl_L_which : Array (Option Value)} {oc_L_which kV_L_which dc_L_which pm_L_which cd_L_which ct_L_which : Value}
    {f_law_k21 : Addr} {od_law_k21 an_law_k21 : Option Addr} {sl_law_k21 : Array (Option Value)} {oc_law_k21 kV_law_k21 dc_law_k21 pm_law_k21 cd_law_k21 ct_law_k21 : Value}
    (z_ValueError : PySem.W.nsIn K mainGlobals "ValueError" = some none)
    (z_int : PySem.W.nsIn K mainGlobals "int" = some none)
    (z_isinstance : PySem.W.nsIn K mainGlobals "isinstance" = some none)
    (z_len : PySem.W.nsIn K mainGlobals "len" = some none)
    (z_list : PySem.W.nsIn K mainGlobals "list" = some none)
    (z_max : PySem.W.nsIn K mainGlobals "max" = some none)
    (z_min : PySem.W.nsIn K mainGlobals "min" = some none)
    (z_range : PySem.W.nsIn K mainGlobals "range" = some none)
    (z_reversed : PySem.W.nsIn K mainGlobals "reversed" = some none)
    (z_set : PySem.W.nsIn K mainGlobals "set" = some none)
    (z_sorted : PySem.W.nsIn K mainGlobals "sorted" = some none)
    (z_str : PySem.W.nsIn K mainGlobals "str" = some none)
    (z_tuple : PySem.W.nsIn K mainGlobals "tuple" = some none)
    (c_FIGURES : PySem.W.nsIn K mainGlobals "FIGURES" = some (some (.str "0123456789" tk_FIGURES)))
    (c_MANY : PySem.W.nsIn K mainGlobals "MANY" = some (some (.int 200 tk_MANY)))
    (c_MOST : PySem.W.nsIn K mainGlobals "MOST" = some (some (.int 16 tk_MOST)))
    (c_WIDE : PySem.W.nsIn K mainGlobals "WIDE" = some (some (.int 2000 tk_WIDE)))
    (ga_NoNumber : PySem.W.nsIn K mainGlobals "NoNumber" = some (some (.ref D_NoNumber)))
    (xe_NoNumber : PySem.W.excIn K D_NoNumber [.type "ValueError", .type "Exception", .type "BaseException", .type "object"] "ValueError.__new__" = true)
    (xk_NoNumber : PySem.W.keepIn K (.ref D_NoNumber) = true)
    (xb_NoNumber : PySem.W.subIn K (.ref D_NoNumber) (.type "BaseException") = some true)
    (xt_NoNumber : PySem.W.typeIn K (.ref D_NoNumber) = some (.type "type"))
    (ga_NoSeat : PySem.W.nsIn K mainGlobals "NoSeat" = some (some (.ref D_NoSeat)))
    (xe_NoSeat : PySem.W.excIn K D_NoSeat [.type "ValueError", .type "Exception", .type "BaseException", .type "object"] "ValueError.__new__" = true)
    (xk_NoSeat : PySem.W.keepIn K (.ref D_NoSeat) = true)
    (xb_NoSeat : PySem.W.subIn K (.ref D_NoSeat) (.type "BaseException") = some true)
    (xt_NoSeat : PySem.W.typeIn K (.ref D_NoSeat) = some (.type "type"))
    (ga_NoSeating : PySem.W.nsIn K mainGlobals "NoSeating" = some (some (.ref D_NoSeating)))
    (xe_NoSeating : PySem.W.excIn K D_NoSeating [.type "ValueError", .type "Exception", .type "BaseException", .type "object"] "ValueError.__new__" = true)
    (xk_NoSeating : PySem.W.keepIn K (.ref D_NoSeating) = true)
    (xb_NoSeating : PySem.W.subIn K (.ref D_NoSeating) (.type "BaseException") = some true)
    (xt_NoSeating : PySem.W.typeIn K (.ref D_NoSeating) = some (.type "type"))
    (ga_NoSize : PySem.W.nsIn K mainGlobals "NoSize" = some (some (.ref D_NoSize)))
    (xe_NoSize : PySem.W.excIn K D_NoSize [.type "ValueError", .type "Exception", .type "BaseException", .type "object"] "ValueError.__new__" = true)
    (xk_NoSize : PySem.W.keepIn K (.ref D_NoSize) = true)
    (xb_NoSize : PySem.W.subIn K (.ref D_NoSize) (.type "BaseException") = some true)
    (xt_NoSize : PySem.W.typeIn K (.ref D_NoSize) = some (.type "type"))
    (ga_NotRead : PySem.W.nsIn K mainGlobals "NotRead" = some (some (.ref D_NotRead)))
    (xe_NotRead : PySem.W.excIn K D_NotRead [.type "ValueError", .type "Exception", .type "BaseException", .type "object"] "ValueError.__new__" = true)
    (xk_NotRead : PySem.W.keepIn K (.ref D_NotRead) = true)
    (xb_NotRead : PySem.W.subIn K (.ref D_NotRead) (.type "BaseException") = some true)
    (xt_NotRead : PySem.W.typeIn K (.ref D_NotRead) = some (.type "type"))
    (ga_OtherSize : PySem.W.nsIn K mainGlobals "OtherSize" = some (some (.ref D_OtherSize)))
    (xe_OtherSize : PySem.W.excIn K D_OtherSize [.type "ValueError", .type "Exception", .type "BaseException", .type "object"] "ValueError.__new__" = true)
    (xk_OtherSize : PySem.W.keepIn K (.ref D_OtherSize) = true)
    (xb_OtherSize : PySem.W.subIn K (.ref D_OtherSize) (.type "BaseException") = some true)
    (xt_OtherSize : PySem.W.typeIn K (.ref D_OtherSize) = some (.type "type"))
    (ga_RoomError : PySem.W.nsIn K mainGlobals "RoomError" = some (some (.ref D_RoomError)))
    (xe_RoomError : PySem.W.excIn K D_RoomError [.type "ValueError", .type "Exception", .type "BaseException", .type "object"] "ValueError.__new__" = true)
    (xk_RoomError : PySem.W.keepIn K (.ref D_RoomError) = true)
    (xb_RoomError : PySem.W.subIn K (.ref D_RoomError) (.type "BaseException") = some true)
    (xt_RoomError : PySem.W.typeIn K (.ref D_RoomError) = some (.type "type"))
    (ga_TooMany : PySem.W.nsIn K mainGlobals "TooMany" = some (some (.ref D_TooMany)))
    (xe_TooMany : PySem.W.excIn K D_TooMany [.type "ValueError", .type "Exception", .type "BaseException", .type "object"] "ValueError.__new__" = true)
    (xk_TooMany : PySem.W.keepIn K (.ref D_TooMany) = true)
    (xb_TooMany : PySem.W.subIn K (.ref D_TooMany) (.type "BaseException") = some true)
    (xt_TooMany : PySem.W.typeIn K (.ref D_TooMany) = some (.type "type"))
    (ga_TooWide : PySem.W.nsIn K mainGlobals "TooWide" = some (some (.ref D_TooWide)))
    (xe_TooWide : PySem.W.excIn K D_TooWide [.type "ValueError", .type "Exception", .type "BaseException", .type "object"] "ValueError.__new__" = true)
    (xk_TooWide : PySem.W.keepIn K (.ref D_TooWide) = true)
    (xb_TooWide : PySem.W.subIn K (.ref D_TooWide) (.type "BaseException") = some true)
    (xt_TooWide : PySem.W.typeIn K (.ref D_TooWide) = some (.type "type"))
    (ga_Unreached : PySem.W.nsIn K mainGlobals "Unreached" = some (some (.ref D_Unreached)))
    (xe_Unreached : PySem.W.excIn K D_Unreached [.type "ValueError", .type "Exception", .type "BaseException", .type "object"] "ValueError.__new__" = true)
    (xk_Unreached : PySem.W.keepIn K (.ref D_Unreached) = true)
    (xb_Unreached : PySem.W.subIn K (.ref D_Unreached) (.type "BaseException") = some true)
    (xt_Unreached : PySem.W.typeIn K (.ref D_Unreached) = some (.type "type"))
    (ga_Book : PySem.W.nsIn K mainGlobals "Book" = some (some (.ref D_Book)))
    (pg_Book : PySem.W.plainGet K D_Book Str.empty = true)
    (hd_Book : PySem.W.hasDictIn K D_Book = true)
    (po_Book : PySem.W.plainOver K D_Book = true)
    (sa_Book : PySem.W.findIn K (.ref D_Book) "__setattr__" = some (some (.builtin "object.__setattr__")))
    (na_Book_size : PySem.W.findIn K (.ref D_Book) "size" = some none)
    (na_Book_steps : PySem.W.findIn K (.ref D_Book) "steps" = some none)
    (na_Book_made : PySem.W.findIn K (.ref D_Book) "made" = some none)
    (na_Book_rows : PySem.W.findIn K (.ref D_Book) "rows" = some none)
    (na_Book_kept : PySem.W.findIn K (.ref D_Book) "kept" = some none)
    (mk_Book : PySem.W.makesIn K D_Book = true)
    (kc_Book : PySem.W.keepIn K (.ref D_Book) = true)
    (ga_Room : PySem.W.nsIn K mainGlobals "Room" = some (some (.ref D_Room)))
    (pg_Room : PySem.W.plainGet K D_Room Str.empty = true)
    (hd_Room : PySem.W.hasDictIn K D_Room = true)
    (po_Room : PySem.W.plainOver K D_Room = true)
    (sa_Room : PySem.W.findIn K (.ref D_Room) "__setattr__" = some (some (.builtin "object.__setattr__")))
    (na_Room_size : PySem.W.findIn K (.ref D_Room) "size" = some none)
    (na_Room_told : PySem.W.findIn K (.ref D_Room) "told" = some none)
    (na_Room_book : PySem.W.findIn K (.ref D_Room) "book" = some none)
    (mk_Room : PySem.W.makesIn K D_Room = true)
    (kc_Room : PySem.W.keepIn K (.ref D_Room) = true)
    (hdx_RoomError : PySem.W.hasDictIn K D_RoomError = true)
    (sb_NoSize_RoomError : PySem.W.subIn K (.ref D_NoSize) (.ref D_RoomError) = some true)
    (eg_NoSize : PySem.W.findIn K (.ref D_NoSize) "__getattribute__" = some (some (.builtin "BaseException.__getattribute__")))
    (ek_NoSize : PySem.W.findIn K (.ref D_NoSize) "__getattr__" = some none)
    (hdx_NoSize : PySem.W.hasDictIn K D_NoSize = true)
    (ea_NoSize : PySem.W.findIn K (.ref D_NoSize) "__class__" = some (some (.builtin "object.__class__")))
    (e_hn : PySem.W.specialIn K (.builtin "object.__class__") "__get__" = some (some (.builtin "getset_descriptor.__get__")))
    (e_ht : PySem.W.takesIn K (.builtin "object.__class__") = some true)
    (em_NoSize : PySem.W.mroIn K D_NoSize (.type "object") = some true)
    (kf_NoSize_ValueError : PySem.W.kitOne K (.ref D_NoSize) (.type "ValueError") = some true)
    (kf_NoSize_NoSize : PySem.W.kitOne K (.ref D_NoSize) (.ref D_NoSize) = some true)
    (kf_NoSize_NoSeating : PySem.W.kitOne K (.ref D_NoSize) (.ref D_NoSeating) = some false)
    (kf_NoSize_OtherSize : PySem.W.kitOne K (.ref D_NoSize) (.ref D_OtherSize) = some false)
    (kf_NoSize_NoSeat : PySem.W.kitOne K (.ref D_NoSize) (.ref D_NoSeat) = some false)
    (kf_NoSize_NoNumber : PySem.W.kitOne K (.ref D_NoSize) (.ref D_NoNumber) = some false)
    (kf_NoSize_TooMany : PySem.W.kitOne K (.ref D_NoSize) (.ref D_TooMany) = some false)
    (kf_NoSize_Unreached : PySem.W.kitOne K (.ref D_NoSize) (.ref D_Unreached) = some false)
    (kf_NoSize_TooWide : PySem.W.kitOne K (.ref D_NoSize) (.ref D_TooWide) = some false)
    (kf_NoSize_NotRead : PySem.W.kitOne K (.ref D_NoSize) (.ref D_NotRead) = some false)
    (sb_NoSeating_RoomError : PySem.W.subIn K (.ref D_NoSeating) (.ref D_RoomError) = some true)
    (eg_NoSeating : PySem.W.findIn K (.ref D_NoSeating) "__getattribute__" = some (some (.builtin "BaseException.__getattribute__")))
    (ek_NoSeating : PySem.W.findIn K (.ref D_NoSeating) "__getattr__" = some none)
    (hdx_NoSeating : PySem.W.hasDictIn K D_NoSeating = true)
    (ea_NoSeating : PySem.W.findIn K (.ref D_NoSeating) "__class__" = some (some (.builtin "object.__class__")))
    (em_NoSeating : PySem.W.mroIn K D_NoSeating (.type "object") = some true)
    (kf_NoSeating_ValueError : PySem.W.kitOne K (.ref D_NoSeating) (.type "ValueError") = some true)
    (kf_NoSeating_NoSize : PySem.W.kitOne K (.ref D_NoSeating) (.ref D_NoSize) = some false)
    (kf_NoSeating_NoSeating : PySem.W.kitOne K (.ref D_NoSeating) (.ref D_NoSeating) = some true)
    (kf_NoSeating_OtherSize : PySem.W.kitOne K (.ref D_NoSeating) (.ref D_OtherSize) = some false)
    (kf_NoSeating_NoSeat : PySem.W.kitOne K (.ref D_NoSeating) (.ref D_NoSeat) = some false)
    (kf_NoSeating_NoNumber : PySem.W.kitOne K (.ref D_NoSeating) (.ref D_NoNumber) = some false)
    (kf_NoSeating_TooMany : PySem.W.kitOne K (.ref D_NoSeating) (.ref D_TooMany) = some false)
    (kf_NoSeating_Unreached : PySem.W.kitOne K (.ref D_NoSeating) (.ref D_Unreached) = some false)
    (kf_NoSeating_TooWide : PySem.W.kitOne K (.ref D_NoSeating) (.ref D_TooWide) = some false)
    (kf_NoSeating_NotRead : PySem.W.kitOne K (.ref D_NoSeating) (.ref D_NotRead) = some false)
    (sb_OtherSize_RoomError : PySem.W.subIn K (.ref D_OtherSize) (.ref D_RoomError) = some true)
    (eg_OtherSize : PySem.W.findIn K (.ref D_OtherSize) "__getattribute__" = some (some (.builtin "BaseException.__getattribute__")))
    (ek_OtherSize : PySem.W.findIn K (.ref D_OtherSize) "__getattr__" = some none)
    (hdx_OtherSize : PySem.W.hasDictIn K D_OtherSize = true)
    (ea_OtherSize : PySem.W.findIn K (.ref D_OtherSize) "__class__" = some (some (.builtin "object.__class__")))
    (em_OtherSize : PySem.W.mroIn K D_OtherSize (.type "object") = some true)
    (kf_OtherSize_ValueError : PySem.W.kitOne K (.ref D_OtherSize) (.type "ValueError") = some true)
    (kf_OtherSize_NoSize : PySem.W.kitOne K (.ref D_OtherSize) (.ref D_NoSize) = some false)
    (kf_OtherSize_NoSeating : PySem.W.kitOne K (.ref D_OtherSize) (.ref D_NoSeating) = some false)
    (kf_OtherSize_OtherSize : PySem.W.kitOne K (.ref D_OtherSize) (.ref D_OtherSize) = some true)
    (kf_OtherSize_NoSeat : PySem.W.kitOne K (.ref D_OtherSize) (.ref D_NoSeat) = some false)
    (kf_OtherSize_NoNumber : PySem.W.kitOne K (.ref D_OtherSize) (.ref D_NoNumber) = some false)
    (kf_OtherSize_TooMany : PySem.W.kitOne K (.ref D_OtherSize) (.ref D_TooMany) = some false)
    (kf_OtherSize_Unreached : PySem.W.kitOne K (.ref D_OtherSize) (.ref D_Unreached) = some false)
    (kf_OtherSize_TooWide : PySem.W.kitOne K (.ref D_OtherSize) (.ref D_TooWide) = some false)
    (kf_OtherSize_NotRead : PySem.W.kitOne K (.ref D_OtherSize) (.ref D_NotRead) = some false)
    (sb_NoSeat_RoomError : PySem.W.subIn K (.ref D_NoSeat) (.ref D_RoomError) = some true)
    (eg_NoSeat : PySem.W.findIn K (.ref D_NoSeat) "__getattribute__" = some (some (.builtin "BaseException.__getattribute__")))
    (ek_NoSeat : PySem.W.findIn K (.ref D_NoSeat) "__getattr__" = some none)
    (hdx_NoSeat : PySem.W.hasDictIn K D_NoSeat = true)
    (ea_NoSeat : PySem.W.findIn K (.ref D_NoSeat) "__class__" = some (some (.builtin "object.__class__")))
    (em_NoSeat : PySem.W.mroIn K D_NoSeat (.type "object") = some true)
    (kf_NoSeat_ValueError : PySem.W.kitOne K (.ref D_NoSeat) (.type "ValueError") = some true)
    (kf_NoSeat_NoSize : PySem.W.kitOne K (.ref D_NoSeat) (.ref D_NoSize) = some false)
    (kf_NoSeat_NoSeating : PySem.W.kitOne K (.ref D_NoSeat) (.ref D_NoSeating) = some false)
    (kf_NoSeat_OtherSize : PySem.W.kitOne K (.ref D_NoSeat) (.ref D_OtherSize) = some false)
    (kf_NoSeat_NoSeat : PySem.W.kitOne K (.ref D_NoSeat) (.ref D_NoSeat) = some true)
    (kf_NoSeat_NoNumber : PySem.W.kitOne K (.ref D_NoSeat) (.ref D_NoNumber) = some false)
    (kf_NoSeat_TooMany : PySem.W.kitOne K (.ref D_NoSeat) (.ref D_TooMany) = some false)
    (kf_NoSeat_Unreached : PySem.W.kitOne K (.ref D_NoSeat) (.ref D_Unreached) = some false)
    (kf_NoSeat_TooWide : PySem.W.kitOne K (.ref D_NoSeat) (.ref D_TooWide) = some false)
    (kf_NoSeat_NotRead : PySem.W.kitOne K (.ref D_NoSeat) (.ref D_NotRead) = some false)
    (sb_NoNumber_RoomError : PySem.W.subIn K (.ref D_NoNumber) (.ref D_RoomError) = some true)
    (eg_NoNumber : PySem.W.findIn K (.ref D_NoNumber) "__getattribute__" = some (some (.builtin "BaseException.__getattribute__")))
    (ek_NoNumber : PySem.W.findIn K (.ref D_NoNumber) "__getattr__" = some none)
    (hdx_NoNumber : PySem.W.hasDictIn K D_NoNumber = true)
    (ea_NoNumber : PySem.W.findIn K (.ref D_NoNumber) "__class__" = some (some (.builtin "object.__class__")))
    (em_NoNumber : PySem.W.mroIn K D_NoNumber (.type "object") = some true)
    (kf_NoNumber_ValueError : PySem.W.kitOne K (.ref D_NoNumber) (.type "ValueError") = some true)
    (kf_NoNumber_NoSize : PySem.W.kitOne K (.ref D_NoNumber) (.ref D_NoSize) = some false)
    (kf_NoNumber_NoSeating : PySem.W.kitOne K (.ref D_NoNumber) (.ref D_NoSeating) = some false)
    (kf_NoNumber_OtherSize : PySem.W.kitOne K (.ref D_NoNumber) (.ref D_OtherSize) = some false)
    (kf_NoNumber_NoSeat : PySem.W.kitOne K (.ref D_NoNumber) (.ref D_NoSeat) = some false)
    (kf_NoNumber_NoNumber : PySem.W.kitOne K (.ref D_NoNumber) (.ref D_NoNumber) = some true)
    (kf_NoNumber_TooMany : PySem.W.kitOne K (.ref D_NoNumber) (.ref D_TooMany) = some false)
    (kf_NoNumber_Unreached : PySem.W.kitOne K (.ref D_NoNumber) (.ref D_Unreached) = some false)
    (kf_NoNumber_TooWide : PySem.W.kitOne K (.ref D_NoNumber) (.ref D_TooWide) = some false)
    (kf_NoNumber_NotRead : PySem.W.kitOne K (.ref D_NoNumber) (.ref D_NotRead) = some false)
    (sb_TooMany_RoomError : PySem.W.subIn K (.ref D_TooMany) (.ref D_RoomError) = some true)
    (eg_TooMany : PySem.W.findIn K (.ref D_TooMany) "__getattribute__" = some (some (.builtin "BaseException.__getattribute__")))
    (ek_TooMany : PySem.W.findIn K (.ref D_TooMany) "__getattr__" = some none)
    (hdx_TooMany : PySem.W.hasDictIn K D_TooMany = true)
    (ea_TooMany : PySem.W.findIn K (.ref D_TooMany) "__class__" = some (some (.builtin "object.__class__")))
    (em_TooMany : PySem.W.mroIn K D_TooMany (.type "object") = some true)
    (kf_TooMany_ValueError : PySem.W.kitOne K (.ref D_TooMany) (.type "ValueError") = some true)
    (kf_TooMany_NoSize : PySem.W.kitOne K (.ref D_TooMany) (.ref D_NoSize) = some false)
    (kf_TooMany_NoSeating : PySem.W.kitOne K (.ref D_TooMany) (.ref D_NoSeating) = some false)
    (kf_TooMany_OtherSize : PySem.W.kitOne K (.ref D_TooMany) (.ref D_OtherSize) = some false)
    (kf_TooMany_NoSeat : PySem.W.kitOne K (.ref D_TooMany) (.ref D_NoSeat) = some false)
    (kf_TooMany_NoNumber : PySem.W.kitOne K (.ref D_TooMany) (.ref D_NoNumber) = some false)
    (kf_TooMany_TooMany : PySem.W.kitOne K (.ref D_TooMany) (.ref D_TooMany) = some true)
    (kf_TooMany_Unreached : PySem.W.kitOne K (.ref D_TooMany) (.ref D_Unreached) = some false)
    (kf_TooMany_TooWide : PySem.W.kitOne K (.ref D_TooMany) (.ref D_TooWide) = some false)
    (kf_TooMany_NotRead : PySem.W.kitOne K (.ref D_TooMany) (.ref D_NotRead) = some false)
    (sb_Unreached_RoomError : PySem.W.subIn K (.ref D_Unreached) (.ref D_RoomError) = some true)
    (eg_Unreached : PySem.W.findIn K (.ref D_Unreached) "__getattribute__" = some (some (.builtin "BaseException.__getattribute__")))
    (ek_Unreached : PySem.W.findIn K (.ref D_Unreached) "__getattr__" = some none)
    (hdx_Unreached : PySem.W.hasDictIn K D_Unreached = true)
    (ea_Unreached : PySem.W.findIn K (.ref D_Unreached) "__class__" = some (some (.builtin "object.__class__")))
    (em_Unreached : PySem.W.mroIn K D_Unreached (.type "object") = some true)
    (kf_Unreached_ValueError : PySem.W.kitOne K (.ref D_Unreached) (.type "ValueError") = some true)
    (kf_Unreached_NoSize : PySem.W.kitOne K (.ref D_Unreached) (.ref D_NoSize) = some false)
    (kf_Unreached_NoSeating : PySem.W.kitOne K (.ref D_Unreached) (.ref D_NoSeating) = some false)
    (kf_Unreached_OtherSize : PySem.W.kitOne K (.ref D_Unreached) (.ref D_OtherSize) = some false)
    (kf_Unreached_NoSeat : PySem.W.kitOne K (.ref D_Unreached) (.ref D_NoSeat) = some false)
    (kf_Unreached_NoNumber : PySem.W.kitOne K (.ref D_Unreached) (.ref D_NoNumber) = some false)
    (kf_Unreached_TooMany : PySem.W.kitOne K (.ref D_Unreached) (.ref D_TooMany) = some false)
    (kf_Unreached_Unreached : PySem.W.kitOne K (.ref D_Unreached) (.ref D_Unreached) = some true)
    (kf_Unreached_TooWide : PySem.W.kitOne K (.ref D_Unreached) (.ref D_TooWide) = some false)
    (kf_Unreached_NotRead : PySem.W.kitOne K (.ref D_Unreached) (.ref D_NotRead) = some false)
    (sb_TooWide_RoomError : PySem.W.subIn K (.ref D_TooWide) (.ref D_RoomError) = some true)
    (eg_TooWide : PySem.W.findIn K (.ref D_TooWide) "__getattribute__" = some (some (.builtin "BaseException.__getattribute__")))
    (ek_TooWide : PySem.W.findIn K (.ref D_TooWide) "__getattr__" = some none)
    (hdx_TooWide : PySem.W.hasDictIn K D_TooWide = true)
    (ea_TooWide : PySem.W.findIn K (.ref D_TooWide) "__class__" = some (some (.builtin "object.__class__")))
    (em_TooWide : PySem.W.mroIn K D_TooWide (.type "object") = some true)
    (kf_TooWide_ValueError : PySem.W.kitOne K (.ref D_TooWide) (.type "ValueError") = some true)
    (kf_TooWide_NoSize : PySem.W.kitOne K (.ref D_TooWide) (.ref D_NoSize) = some false)
    (kf_TooWide_NoSeating : PySem.W.kitOne K (.ref D_TooWide) (.ref D_NoSeating) = some false)
    (kf_TooWide_OtherSize : PySem.W.kitOne K (.ref D_TooWide) (.ref D_OtherSize) = some false)
    (kf_TooWide_NoSeat : PySem.W.kitOne K (.ref D_TooWide) (.ref D_NoSeat) = some false)
    (kf_TooWide_NoNumber : PySem.W.kitOne K (.ref D_TooWide) (.ref D_NoNumber) = some false)
    (kf_TooWide_TooMany : PySem.W.kitOne K (.ref D_TooWide) (.ref D_TooMany) = some false)
    (kf_TooWide_Unreached : PySem.W.kitOne K (.ref D_TooWide) (.ref D_Unreached) = some false)
    (kf_TooWide_TooWide : PySem.W.kitOne K (.ref D_TooWide) (.ref D_TooWide) = some true)
    (kf_TooWide_NotRead : PySem.W.kitOne K (.ref D_TooWide) (.ref D_NotRead) = some false)
    (sb_NotRead_RoomError : PySem.W.subIn K (.ref D_NotRead) (.ref D_RoomError) = some true)
    (eg_NotRead : PySem.W.findIn K (.ref D_NotRead) "__getattribute__" = some (some (.builtin "BaseException.__getattribute__")))
    (ek_NotRead : PySem.W.findIn K (.ref D_NotRead) "__getattr__" = some none)
    (hdx_NotRead : PySem.W.hasDictIn K D_NotRead = true)
    (ea_NotRead : PySem.W.findIn K (.ref D_NotRead) "__class__" = some (some (.builtin "object.__class__")))
    (em_NotRead : PySem.W.mroIn K D_NotRead (.type "object") = some true)
    (kf_NotRead_ValueError : PySem.W.kitOne K (.ref D_NotRead) (.type "ValueError") = some true)
    (kf_NotRead_NoSize : PySem.W.kitOne K (.ref D_NotRead) (.ref D_NoSize) = some false)
    (kf_NotRead_NoSeating : PySem.W.kitOne K (.ref D_NotRead) (.ref D_NoSeating) = some false)
    (kf_NotRead_OtherSize : PySem.W.kitOne K (.ref D_NotRead) (.ref D_OtherSize) = some false)
    (kf_NotRead_NoSeat : PySem.W.kitOne K (.ref D_NotRead) (.ref D_NoSeat) = some false)
    (kf_NotRead_NoNumber : PySem.W.kitOne K (.ref D_NotRead) (.ref D_NoNumber) = some false)
    (kf_NotRead_TooMany : PySem.W.kitOne K (.ref D_NotRead) (.ref D_TooMany) = some false)
    (kf_NotRead_Unreached : PySem.W.kitOne K (.ref D_NotRead) (.ref D_Unreached) = some false)
    (kf_NotRead_TooWide : PySem.W.kitOne K (.ref D_NotRead) (.ref D_TooWide) = some false)
    (kf_NotRead_NotRead : PySem.W.kitOne K (.ref D_NotRead) (.ref D_NotRead) = some true)
    (a_L_cell_at : PySem.W.nsIn K mainGlobals "_law_cell_at" = some (some (.ref f_L_cell_at)))
    (l_L_cell_at : K.lookup f_L_cell_at = some ⟨oc_L_cell_at, od_L_cell_at, .func (PySem.W.fnOf "_law_cell_at" "_law_cell_at" (defArgs s_L_cell_at) (defBody s_L_cell_at) (defScope s_L_cell_at) .none kV_L_cell_at dc_L_cell_at pm_L_cell_at an_L_cell_at cd_L_cell_at ct_L_cell_at), sl_L_cell_at⟩)
    (co_L_cell_at : PySem.W.codeIn K cd_L_cell_at "_law_cell_at" = true)
    (ke_L_cell_at : PySem.W.keepIn K (.ref f_L_cell_at) = true)
    (a_ask_size : PySem.W.nsIn K mainGlobals "ask_size" = some (some (.ref f_ask_size)))
    (l_ask_size : K.lookup f_ask_size = some ⟨oc_ask_size, od_ask_size, .func (PySem.W.fnOf "ask_size" "ask_size" (defArgs s_ask_size) (defBody s_ask_size) (defScope s_ask_size) .none kV_ask_size dc_ask_size pm_ask_size an_ask_size cd_ask_size ct_ask_size), sl_ask_size⟩)
    (co_ask_size : PySem.W.codeIn K cd_ask_size "ask_size" = true)
    (ke_ask_size : PySem.W.keepIn K (.ref f_ask_size) = true)
    (a_rest : PySem.W.nsIn K mainGlobals "rest" = some (some (.ref f_rest)))
    (l_rest : K.lookup f_rest = some ⟨oc_rest, od_rest, .func (PySem.W.fnOf "rest" "rest" (defArgs s_rest) (defBody s_rest) (defScope s_rest) .none kV_rest dc_rest pm_rest an_rest cd_rest ct_rest), sl_rest⟩)
    (co_rest : PySem.W.codeIn K cd_rest "rest" = true)
    (ke_rest : PySem.W.keepIn K (.ref f_rest) = true)
    (a_Book_init : PySem.W.findIn K (.ref D_Book) "__init__" = some (some (.ref f_Book_init)))
    (i_Book_init : PySem.W.isFn K (.ref f_Book_init) = true)
    (l_Book_init : K.lookup f_Book_init = some ⟨oc_Book_init, od_Book_init, .func (PySem.W.fnOf "__init__" "Book.__init__" (defArgs s_Book_init) (defBody s_Book_init) (defScope s_Book_init) .none kV_Book_init dc_Book_init pm_Book_init an_Book_init cd_Book_init ct_Book_init), sl_Book_init⟩)
    (co_Book_init : PySem.W.codeIn K cd_Book_init "Book.__init__" = true)
    (ke_Book_init : PySem.W.keepIn K (.ref f_Book_init) = true)
    (a_Room_init : PySem.W.findIn K (.ref D_Room) "__init__" = some (some (.ref f_Room_init)))
    (i_Room_init : PySem.W.isFn K (.ref f_Room_init) = true)
    (l_Room_init : K.lookup f_Room_init = some ⟨oc_Room_init, od_Room_init, .func (PySem.W.fnOf "__init__" "Room.__init__" (defArgs s_Room_init) (defBody s_Room_init) (defScope s_Room_init) .none kV_Room_init dc_Room_init pm_Room_init an_Room_init cd_Room_init ct_Room_init), sl_Room_init⟩)
    (co_Room_init : PySem.W.codeIn K cd_Room_init "Room.__init__" = true)
    (ke_Room_init : PySem.W.keepIn K (.ref f_Room_init) = true)
    (a_Room_how_many : PySem.W.findIn K (.ref D_Room) "how_many" = some (some (.ref f_Room_how_many)))
    (i_Room_how_many : PySem.W.isFn K (.ref f_Room_how_many) = true)
    (l_Room_how_many : K.lookup f_Room_how_many = some ⟨oc_Room_how_many, od_Room_how_many, .func (PySem.W.fnOf "how_many" "Room.how_many" (defArgs s_Room_how_many) (defBody s_Room_how_many) (defScope s_Room_how_many) .none kV_Room_how_many dc_Room_how_many pm_Room_how_many an_Room_how_many cd_Room_how_many ct_Room_how_many), sl_Room_how_many⟩)
    (co_Room_how_many : PySem.W.codeIn K cd_Room_how_many "Room.how_many" = true)
    (ke_Room_how_many : PySem.W.keepIn K (.ref f_Room_how_many) = true)
    (a_joined : PySem.W.nsIn K mainGlobals "joined" = some (some (.ref f_joined)))
    (l_joined : K.lookup f_joined = some ⟨oc_joined, od_joined, .func (PySem.W.fnOf "joined" "joined" (defArgs s_joined) (defBody s_joined) (defScope s_joined) .none kV_joined dc_joined pm_joined an_joined cd_joined ct_joined), sl_joined⟩)
    (co_joined : PySem.W.codeIn K cd_joined "joined" = true)
    (ke_joined : PySem.W.keepIn K (.ref f_joined) = true)
    (a_Room_numbered : PySem.W.findIn K (.ref D_Room) "numbered" = some (some (.ref f_Room_numbered)))
    (i_Room_numbered : PySem.W.isFn K (.ref f_Room_numbered) = true)
    (l_Room_numbered : K.lookup f_Room_numbered = some ⟨oc_Room_numbered, od_Room_numbered, .func (PySem.W.fnOf "numbered" "Room.numbered" (defArgs s_Room_numbered) (defBody s_Room_numbered) (defScope s_Room_numbered) .none kV_Room_numbered dc_Room_numbered pm_Room_numbered an_Room_numbered cd_Room_numbered ct_Room_numbered), sl_Room_numbered⟩)
    (co_Room_numbered : PySem.W.codeIn K cd_Room_numbered "Room.numbered" = true)
    (ke_Room_numbered : PySem.W.keepIn K (.ref f_Room_numbered) = true)
    (a_L_bad_k21 : PySem.W.nsIn K mainGlobals "_law_bad" = some (some (.ref f_L_bad_k21)))
    (l_L_bad_k21 : K.lookup f_L_bad_k21 = some ⟨oc_L_bad_k21, od_L_bad_k21, .func (PySem.W.fnOf "_law_bad" "_law_bad" (defArgs s_L_bad_k21) (defBody s_L_bad_k21) (defScope s_L_bad_k21) .none kV_L_bad_k21 dc_L_bad_k21 pm_L_bad_k21 an_L_bad_k21 cd_L_bad_k21 ct_L_bad_k21), sl_L_bad_k21⟩)
    (co_L_bad_k21 : PySem.W.codeIn K cd_L_bad_k21 "_law_bad" = true)
    (ke_L_bad_k21 : PySem.W.keepIn K (.ref f_L_bad_k21) = true)
    (a_L_far : PySem.W.nsIn K mainGlobals "_law_far" = some (some (.ref f_L_far)))
    (l_L_far : K.lookup f_L_far = some ⟨oc_L_far, od_L_far, .func (PySem.W.fnOf "_law_far" "_law_far" (defArgs s_L_far) (defBody s_L_far) (defScope s_L_far) .none kV_L_far dc_L_far pm_L_far an_L_far cd_L_far ct_L_far), sl_L_far⟩)
    (co_L_far : PySem.W.codeIn K cd_L_far "_law_far" = true)
    (ke_L_far : PySem.W.keepIn K (.ref f_L_far) = true)
    (a_Book_note : PySem.W.findIn K (.ref D_Book) "note" = some (some (.ref f_Book_note)))
    (i_Book_note : PySem.W.isFn K (.ref f_Book_note) = true)
    (l_Book_note : K.lookup f_Book_note = some ⟨oc_Book_note, od_Book_note, .func (PySem.W.fnOf "note" "Book.note" (defArgs s_Book_note) (defBody s_Book_note) (defScope s_Book_note) .none kV_Book_note dc_Book_note pm_Book_note an_Book_note cd_Book_note ct_Book_note), sl_Book_note⟩)
    (co_Book_note : PySem.W.codeIn K cd_Book_note "Book.note" = true)
    (ke_Book_note : PySem.W.keepIn K (.ref f_Book_note) = true)
    (a_turned : PySem.W.nsIn K mainGlobals "turned" = some (some (.ref f_turned)))
    (l_turned : K.lookup f_turned = some ⟨oc_turned, od_turned, .func (PySem.W.fnOf "turned" "turned" (defArgs s_turned) (defBody s_turned) (defScope s_turned) .none kV_turned dc_turned pm_turned an_turned cd_turned ct_turned), sl_turned⟩)
    (co_turned : PySem.W.codeIn K cd_turned "turned" = true)
    (ke_turned : PySem.W.keepIn K (.ref f_turned) = true)
    (a_Book_keep : PySem.W.findIn K (.ref D_Book) "keep" = some (some (.ref f_Book_keep)))
    (i_Book_keep : PySem.W.isFn K (.ref f_Book_keep) = true)
    (l_Book_keep : K.lookup f_Book_keep = some ⟨oc_Book_keep, od_Book_keep, .func (PySem.W.fnOf "keep" "Book.keep" (defArgs s_Book_keep) (defBody s_Book_keep) (defScope s_Book_keep) .none kV_Book_keep dc_Book_keep pm_Book_keep an_Book_keep cd_Book_keep ct_Book_keep), sl_Book_keep⟩)
    (co_Book_keep : PySem.W.codeIn K cd_Book_keep "Book.keep" = true)
    (ke_Book_keep : PySem.W.keepIn K (.ref f_Book_keep) = true)
    (a_Book_sifted : PySem.W.findIn K (.ref D_Book) "sifted" = some (some (.ref f_Book_sifted)))
    (i_Book_sifted : PySem.W.isFn K (.ref f_Book_sifted) = true)
    (l_Book_sifted : K.lookup f_Book_sifted = some ⟨oc_Book_sifted, od_Book_sifted, .func (PySem.W.fnOf "sifted" "Book.sifted" (defArgs s_Book_sifted) (defBody s_Book_sifted) (defScope s_Book_sifted) .none kV_Book_sifted dc_Book_sifted pm_Book_sifted an_Book_sifted cd_Book_sifted ct_Book_sifted), sl_Book_sifted⟩)
    (co_Book_sifted : PySem.W.codeIn K cd_Book_sifted "Book.sifted" = true)
    (ke_Book_sifted : PySem.W.keepIn K (.ref f_Book_sifted) = true)
    (a_Book_close : PySem.W.findIn K (.ref D_Book) "close" = some (some (.ref f_Book_close)))
    (i_Book_close : PySem.W.isFn K (.ref f_Book_close) = true)
    (l_Book_close : K.lookup f_Book_close = some ⟨oc_Book_close, od_Book_close, .func (PySem.W.fnOf "close" "Book.close" (defArgs s_Book_close) (defBody s_Book_close) (defScope s_Book_close) .none kV_Book_close dc_Book_close pm_Book_close an_Book_close cd_Book_close ct_Book_close), sl_Book_close⟩)
    (co_Book_close : PySem.W.codeIn K cd_Book_close "Book.close" = true)
    (ke_Book_close : PySem.W.keepIn K (.ref f_Book_close) = true)
    (a_is_seating : PySem.W.nsIn K mainGlobals "is_seating" = some (some (.ref f_is_seating)))
    (l_is_seating : K.lookup f_is_seating = some ⟨oc_is_seating, od_is_seating, .func (PySem.W.fnOf "is_seating" "is_seating" (defArgs s_is_seating) (defBody s_is_seating) (defScope s_is_seating) .none kV_is_seating dc_is_seating pm_is_seating an_is_seating cd_is_seating ct_is_seating), sl_is_seating⟩)
    (co_is_seating : PySem.W.codeIn K cd_is_seating "is_seating" = true)
    (ke_is_seating : PySem.W.keepIn K (.ref f_is_seating) = true)
    (a_ask_seating : PySem.W.nsIn K mainGlobals "ask_seating" = some (some (.ref f_ask_seating)))
    (l_ask_seating : K.lookup f_ask_seating = some ⟨oc_ask_seating, od_ask_seating, .func (PySem.W.fnOf "ask_seating" "ask_seating" (defArgs s_ask_seating) (defBody s_ask_seating) (defScope s_ask_seating) .none kV_ask_seating dc_ask_seating pm_ask_seating an_ask_seating cd_ask_seating ct_ask_seating), sl_ask_seating⟩)
    (co_ask_seating : PySem.W.codeIn K cd_ask_seating "ask_seating" = true)
    (ke_ask_seating : PySem.W.keepIn K (.ref f_ask_seating) = true)
    (a_Room_ask : PySem.W.findIn K (.ref D_Room) "ask" = some (some (.ref f_Room_ask)))
    (i_Room_ask : PySem.W.isFn K (.ref f_Room_ask) = true)
    (l_Room_ask : K.lookup f_Room_ask = some ⟨oc_Room_ask, od_Room_ask, .func (PySem.W.fnOf "ask" "Room.ask" (defArgs s_Room_ask) (defBody s_Room_ask) (defScope s_Room_ask) .none kV_Room_ask dc_Room_ask pm_Room_ask an_Room_ask cd_Room_ask ct_Room_ask), sl_Room_ask⟩)
    (co_Room_ask : PySem.W.codeIn K cd_Room_ask "Room.ask" = true)
    (ke_Room_ask : PySem.W.keepIn K (.ref f_Room_ask) = true)
    (a_Room_put_move : PySem.W.findIn K (.ref D_Room) "put_move" = some (some (.ref f_Room_put_move)))
    (i_Room_put_move : PySem.W.isFn K (.ref f_Room_put_move) = true)
    (l_Room_put_move : K.lookup f_Room_put_move = some ⟨oc_Room_put_move, od_Room_put_move, .func (PySem.W.fnOf "put_move" "Room.put_move" (defArgs s_Room_put_move) (defBody s_Room_put_move) (defScope s_Room_put_move) .none kV_Room_put_move dc_Room_put_move pm_Room_put_move an_Room_put_move cd_Room_put_move ct_Room_put_move), sl_Room_put_move⟩)
    (co_Room_put_move : PySem.W.codeIn K cd_Room_put_move "Room.put_move" = true)
    (ke_Room_put_move : PySem.W.keepIn K (.ref f_Room_put_move) = true)
    (a_L_full_k21 : PySem.W.nsIn K mainGlobals "_law_full" = some (some (.ref f_L_full_k21)))
    (l_L_full_k21 : K.lookup f_L_full_k21 = some ⟨oc_L_full_k21, od_L_full_k21, .func (PySem.W.fnOf "_law_full" "_law_full" (defArgs s_L_full_k21) (defBody s_L_full_k21) (defScope s_L_full_k21) .none kV_L_full_k21 dc_L_full_k21 pm_L_full_k21 an_L_full_k21 cd_L_full_k21 ct_L_full_k21), sl_L_full_k21⟩)
    (co_L_full_k21 : PySem.W.codeIn K cd_L_full_k21 "_law_full" = true)
    (ke_L_full_k21 : PySem.W.keepIn K (.ref f_L_full_k21) = true)
    (a_Room_table : PySem.W.findIn K (.ref D_Room) "table" = some (some (.ref f_Room_table)))
    (i_Room_table : PySem.W.isFn K (.ref f_Room_table) = true)
    (l_Room_table : K.lookup f_Room_table = some ⟨oc_Room_table, od_Room_table, .func (PySem.W.fnOf "table" "Room.table" (defArgs s_Room_table) (defBody s_Room_table) (defScope s_Room_table) .none kV_Room_table dc_Room_table pm_Room_table an_Room_table cd_Room_table ct_Room_table), sl_Room_table⟩)
    (co_Room_table : PySem.W.codeIn K cd_Room_table "Room.table" = true)
    (ke_Room_table : PySem.W.keepIn K (.ref f_Room_table) = true)
    (a_ask_seat : PySem.W.nsIn K mainGlobals "ask_seat" = some (some (.ref f_ask_seat)))
    (l_ask_seat : K.lookup f_ask_seat = some ⟨oc_ask_seat, od_ask_seat, .func (PySem.W.fnOf "ask_seat" "ask_seat" (defArgs s_ask_seat) (defBody s_ask_seat) (defScope s_ask_seat) .none kV_ask_seat dc_ask_seat pm_ask_seat an_ask_seat cd_ask_seat ct_ask_seat), sl_ask_seat⟩)
    (co_ask_seat : PySem.W.codeIn K cd_ask_seat "ask_seat" = true)
    (ke_ask_seat : PySem.W.keepIn K (.ref f_ask_seat) = true)
    (a_holding : PySem.W.nsIn K mainGlobals "holding" = some (some (.ref f_holding)))
    (l_holding : K.lookup f_holding = some ⟨oc_holding, od_holding, .func (PySem.W.fnOf "holding" "holding" (defArgs s_holding) (defBody s_holding) (defScope s_holding) .none kV_holding dc_holding pm_holding an_holding cd_holding ct_holding), sl_holding⟩)
    (co_holding : PySem.W.codeIn K cd_holding "holding" = true)
    (ke_holding : PySem.W.keepIn K (.ref f_holding) = true)
    (a_Room_moves : PySem.W.findIn K (.ref D_Room) "moves" = some (some (.ref f_Room_moves)))
    (i_Room_moves : PySem.W.isFn K (.ref f_Room_moves) = true)
    (l_Room_moves : K.lookup f_Room_moves = some ⟨oc_Room_moves, od_Room_moves, .func (PySem.W.fnOf "moves" "Room.moves" (defArgs s_Room_moves) (defBody s_Room_moves) (defScope s_Room_moves) .none kV_Room_moves dc_Room_moves pm_Room_moves an_Room_moves cd_Room_moves ct_Room_moves), sl_Room_moves⟩)
    (co_Room_moves : PySem.W.codeIn K cd_Room_moves "Room.moves" = true)
    (ke_Room_moves : PySem.W.keepIn K (.ref f_Room_moves) = true)
    (a_one_part : PySem.W.nsIn K mainGlobals "one_part" = some (some (.ref f_one_part)))
    (l_one_part : K.lookup f_one_part = some ⟨oc_one_part, od_one_part, .func (PySem.W.fnOf "one_part" "one_part" (defArgs s_one_part) (defBody s_one_part) (defScope s_one_part) .none kV_one_part dc_one_part pm_one_part an_one_part cd_one_part ct_one_part), sl_one_part⟩)
    (co_one_part : PySem.W.codeIn K cd_one_part "one_part" = true)
    (ke_one_part : PySem.W.keepIn K (.ref f_one_part) = true)
    (a_parting : PySem.W.nsIn K mainGlobals "parting" = some (some (.ref f_parting)))
    (l_parting : K.lookup f_parting = some ⟨oc_parting, od_parting, .func (PySem.W.fnOf "parting" "parting" (defArgs s_parting) (defBody s_parting) (defScope s_parting) .none kV_parting dc_parting pm_parting an_parting cd_parting ct_parting), sl_parting⟩)
    (co_parting : PySem.W.codeIn K cd_parting "parting" = true)
    (ke_parting : PySem.W.keepIn K (.ref f_parting) = true)
    (a_ring_of : PySem.W.nsIn K mainGlobals "ring_of" = some (some (.ref f_ring_of)))
    (l_ring_of : K.lookup f_ring_of = some ⟨oc_ring_of, od_ring_of, .func (PySem.W.fnOf "ring_of" "ring_of" (defArgs s_ring_of) (defBody s_ring_of) (defScope s_ring_of) .none kV_ring_of dc_ring_of pm_ring_of an_ring_of cd_ring_of ct_ring_of), sl_ring_of⟩)
    (co_ring_of : PySem.W.codeIn K cd_ring_of "ring_of" = true)
    (ke_ring_of : PySem.W.keepIn K (.ref f_ring_of) = true)
    (a_L_no_seat : PySem.W.nsIn K mainGlobals "_law_no_seat" = some (some (.ref f_L_no_seat)))
    (l_L_no_seat : K.lookup f_L_no_seat = some ⟨oc_L_no_seat, od_L_no_seat, .func (PySem.W.fnOf "_law_no_seat" "_law_no_seat" (defArgs s_L_no_seat) (defBody s_L_no_seat) (defScope s_L_no_seat) .none kV_L_no_seat dc_L_no_seat pm_L_no_seat an_L_no_seat cd_L_no_seat ct_L_no_seat), sl_L_no_seat⟩)
    (co_L_no_seat : PySem.W.codeIn K cd_L_no_seat "_law_no_seat" = true)
    (ke_L_no_seat : PySem.W.keepIn K (.ref f_L_no_seat) = true)
    (a_Room_number_of : PySem.W.findIn K (.ref D_Room) "number_of" = some (some (.ref f_Room_number_of)))
    (i_Room_number_of : PySem.W.isFn K (.ref f_Room_number_of) = true)
    (l_Room_number_of : K.lookup f_Room_number_of = some ⟨oc_Room_number_of, od_Room_number_of, .func (PySem.W.fnOf "number_of" "Room.number_of" (defArgs s_Room_number_of) (defBody s_Room_number_of) (defScope s_Room_number_of) .none kV_Room_number_of dc_Room_number_of pm_Room_number_of an_Room_number_of cd_Room_number_of ct_Room_number_of), sl_Room_number_of⟩)
    (co_Room_number_of : PySem.W.codeIn K cd_Room_number_of "Room.number_of" = true)
    (ke_Room_number_of : PySem.W.keepIn K (.ref f_Room_number_of) = true)
    (a_Room_reaches : PySem.W.findIn K (.ref D_Room) "reaches" = some (some (.ref f_Room_reaches)))
    (i_Room_reaches : PySem.W.isFn K (.ref f_Room_reaches) = true)
    (l_Room_reaches : K.lookup f_Room_reaches = some ⟨oc_Room_reaches, od_Room_reaches, .func (PySem.W.fnOf "reaches" "Room.reaches" (defArgs s_Room_reaches) (defBody s_Room_reaches) (defScope s_Room_reaches) .none kV_Room_reaches dc_Room_reaches pm_Room_reaches an_Room_reaches cd_Room_reaches ct_Room_reaches), sl_Room_reaches⟩)
    (co_Room_reaches : PySem.W.codeIn K cd_Room_reaches "Room.reaches" = true)
    (ke_Room_reaches : PySem.W.keepIn K (.ref f_Room_reaches) = true)
    (a_Room_recipe : PySem.W.findIn K (.ref D_Room) "recipe" = some (some (.ref f_Room_recipe)))
    (i_Room_recipe : PySem.W.isFn K (.ref f_Room_recipe) = true)
    (l_Room_recipe : K.lookup f_Room_recipe = some ⟨oc_Room_recipe, od_Room_recipe, .func (PySem.W.fnOf "recipe" "Room.recipe" (defArgs s_Room_recipe) (defBody s_Room_recipe) (defScope s_Room_recipe) .none kV_Room_recipe dc_Room_recipe pm_Room_recipe an_Room_recipe cd_Room_recipe ct_Room_recipe), sl_Room_recipe⟩)
    (co_Room_recipe : PySem.W.codeIn K cd_Room_recipe "Room.recipe" = true)
    (ke_Room_recipe : PySem.W.keepIn K (.ref f_Room_recipe) = true)
    (a_rings : PySem.W.nsIn K mainGlobals "rings" = some (some (.ref f_rings)))
    (l_rings : K.lookup f_rings = some ⟨oc_rings, od_rings, .func (PySem.W.fnOf "rings" "rings" (defArgs s_rings) (defBody s_rings) (defScope s_rings) .none kV_rings dc_rings pm_rings an_rings cd_rings ct_rings), sl_rings⟩)
    (co_rings : PySem.W.codeIn K cd_rings "rings" = true)
    (ke_rings : PySem.W.keepIn K (.ref f_rings) = true)
    (a_shared : PySem.W.nsIn K mainGlobals "shared" = some (some (.ref f_shared)))
    (l_shared : K.lookup f_shared = some ⟨oc_shared, od_shared, .func (PySem.W.fnOf "shared" "shared" (defArgs s_shared) (defBody s_shared) (defScope s_shared) .none kV_shared dc_shared pm_shared an_shared cd_shared ct_shared), sl_shared⟩)
    (co_shared : PySem.W.codeIn K cd_shared "shared" = true)
    (ke_shared : PySem.W.keepIn K (.ref f_shared) = true)
    (a_age : PySem.W.nsIn K mainGlobals "age" = some (some (.ref f_age)))
    (l_age : K.lookup f_age = some ⟨oc_age, od_age, .func (PySem.W.fnOf "age" "age" (defArgs s_age) (defBody s_age) (defScope s_age) .none kV_age dc_age pm_age an_age cd_age ct_age), sl_age⟩)
    (co_age : PySem.W.codeIn K cd_age "age" = true)
    (ke_age : PySem.W.keepIn K (.ref f_age) = true)
    (a_back : PySem.W.nsIn K mainGlobals "back" = some (some (.ref f_back)))
    (l_back : K.lookup f_back = some ⟨oc_back, od_back, .func (PySem.W.fnOf "back" "back" (defArgs s_back) (defBody s_back) (defScope s_back) .none kV_back dc_back pm_back an_back cd_back ct_back), sl_back⟩)
    (co_back : PySem.W.codeIn K cd_back "back" = true)
    (ke_back : PySem.W.keepIn K (.ref f_back) = true)
    (a_even : PySem.W.nsIn K mainGlobals "even" = some (some (.ref f_even)))
    (l_even : K.lookup f_even = some ⟨oc_even, od_even, .func (PySem.W.fnOf "even" "even" (defArgs s_even) (defBody s_even) (defScope s_even) .none kV_even dc_even pm_even an_even cd_even ct_even), sl_even⟩)
    (co_even : PySem.W.codeIn K cd_even "even" = true)
    (ke_even : PySem.W.keepIn K (.ref f_even) = true)
    (a_shown : PySem.W.nsIn K mainGlobals "shown" = some (some (.ref f_shown)))
    (l_shown : K.lookup f_shown = some ⟨oc_shown, od_shown, .func (PySem.W.fnOf "shown" "shown" (defArgs s_shown) (defBody s_shown) (defScope s_shown) .none kV_shown dc_shown pm_shown an_shown cd_shown ct_shown), sl_shown⟩)
    (co_shown : PySem.W.codeIn K cd_shown "shown" = true)
    (ke_shown : PySem.W.keepIn K (.ref f_shown) = true)
    (a_then : PySem.W.nsIn K mainGlobals "then" = some (some (.ref f_then)))
    (l_then : K.lookup f_then = some ⟨oc_then, od_then, .func (PySem.W.fnOf "then" "then" (defArgs s_then) (defBody s_then) (defScope s_then) .none kV_then dc_then pm_then an_then cd_then ct_then), sl_then⟩)
    (co_then : PySem.W.codeIn K cd_then "then" = true)
    (ke_then : PySem.W.keepIn K (.ref f_then) = true)
    (a_times : PySem.W.nsIn K mainGlobals "times" = some (some (.ref f_times)))
    (l_times : K.lookup f_times = some ⟨oc_times, od_times, .func (PySem.W.fnOf "times" "times" (defArgs s_times) (defBody s_times) (defScope s_times) .none kV_times dc_times pm_times an_times cd_times ct_times), sl_times⟩)
    (co_times : PySem.W.codeIn K cd_times "times" = true)
    (ke_times : PySem.W.keepIn K (.ref f_times) = true)
    (a_L_no_seating : PySem.W.nsIn K mainGlobals "_law_no_seating" = some (some (.ref f_L_no_seating)))
    (l_L_no_seating : K.lookup f_L_no_seating = some ⟨oc_L_no_seating, od_L_no_seating, .func (PySem.W.fnOf "_law_no_seating" "_law_no_seating" (defArgs s_L_no_seating) (defBody s_L_no_seating) (defScope s_L_no_seating) .none kV_L_no_seating dc_L_no_seating pm_L_no_seating an_L_no_seating cd_L_no_seating ct_L_no_seating), sl_L_no_seating⟩)
    (co_L_no_seating : PySem.W.codeIn K cd_L_no_seating "_law_no_seating" = true)
    (ke_L_no_seating : PySem.W.keepIn K (.ref f_L_no_seating) = true)
    (a_seat_of : PySem.W.nsIn K mainGlobals "seat_of" = some (some (.ref f_seat_of)))
    (l_seat_of : K.lookup f_seat_of = some ⟨oc_seat_of, od_seat_of, .func (PySem.W.fnOf "seat_of" "seat_of" (defArgs s_seat_of) (defBody s_seat_of) (defScope s_seat_of) .none kV_seat_of dc_seat_of pm_seat_of an_seat_of cd_seat_of ct_seat_of), sl_seat_of⟩)
    (co_seat_of : PySem.W.codeIn K cd_seat_of "seat_of" = true)
    (ke_seat_of : PySem.W.keepIn K (.ref f_seat_of) = true)
    (a_read : PySem.W.nsIn K mainGlobals "read" = some (some (.ref f_read)))
    (l_read : K.lookup f_read = some ⟨oc_read, od_read, .func (PySem.W.fnOf "read" "read" (defArgs s_read) (defBody s_read) (defScope s_read) .none kV_read dc_read pm_read an_read cd_read ct_read), sl_read⟩)
    (co_read : PySem.W.codeIn K cd_read "read" = true)
    (ke_read : PySem.W.keepIn K (.ref f_read) = true)
    (a_L_no_size : PySem.W.nsIn K mainGlobals "_law_no_size" = some (some (.ref f_L_no_size)))
    (l_L_no_size : K.lookup f_L_no_size = some ⟨oc_L_no_size, od_L_no_size, .func (PySem.W.fnOf "_law_no_size" "_law_no_size" (defArgs s_L_no_size) (defBody s_L_no_size) (defScope s_L_no_size) .none kV_L_no_size dc_L_no_size pm_L_no_size an_L_no_size cd_L_no_size ct_L_no_size), sl_L_no_size⟩)
    (co_L_no_size : PySem.W.codeIn K cd_L_no_size "_law_no_size" = true)
    (ke_L_no_size : PySem.W.keepIn K (.ref f_L_no_size) = true)
    (a_within : PySem.W.nsIn K mainGlobals "within" = some (some (.ref f_within)))
    (l_within : K.lookup f_within = some ⟨oc_within, od_within, .func (PySem.W.fnOf "within" "within" (defArgs s_within) (defBody s_within) (defScope s_within) .none kV_within dc_within pm_within an_within cd_within ct_within), sl_within⟩)
    (co_within : PySem.W.codeIn K cd_within "within" = true)
    (ke_within : PySem.W.keepIn K (.ref f_within) = true)
    (a_L_other_size : PySem.W.nsIn K mainGlobals "_law_other_size" = some (some (.ref f_L_other_size)))
    (l_L_other_size : K.lookup f_L_other_size = some ⟨oc_L_other_size, od_L_other_size, .func (PySem.W.fnOf "_law_other_size" "_law_other_size" (defArgs s_L_other_size) (defBody s_L_other_size) (defScope s_L_other_size) .none kV_L_other_size dc_L_other_size pm_L_other_size an_L_other_size cd_L_other_size ct_L_other_size), sl_L_other_size⟩)
    (co_L_other_size : PySem.W.codeIn K cd_L_other_size "_law_other_size" = true)
    (ke_L_other_size : PySem.W.keepIn K (.ref f_L_other_size) = true)
    (a_L_unreached : PySem.W.nsIn K mainGlobals "_law_unreached" = some (some (.ref f_L_unreached)))
    (l_L_unreached : K.lookup f_L_unreached = some ⟨oc_L_unreached, od_L_unreached, .func (PySem.W.fnOf "_law_unreached" "_law_unreached" (defArgs s_L_unreached) (defBody s_L_unreached) (defScope s_L_unreached) .none kV_L_unreached dc_L_unreached pm_L_unreached an_L_unreached cd_L_unreached ct_L_unreached), sl_L_unreached⟩)
    (co_L_unreached : PySem.W.codeIn K cd_L_unreached "_law_unreached" = true)
    (ke_L_unreached : PySem.W.keepIn K (.ref f_L_unreached) = true)
    (a_many_times : PySem.W.nsIn K mainGlobals "many_times" = some (some (.ref f_many_times)))
    (l_many_times : K.lookup f_many_times = some ⟨oc_many_times, od_many_times, .func (PySem.W.fnOf "many_times" "many_times" (defArgs s_many_times) (defBody s_many_times) (defScope s_many_times) .none kV_many_times dc_many_times pm_many_times an_many_times cd_many_times ct_many_times), sl_many_times⟩)
    (co_many_times : PySem.W.codeIn K cd_many_times "many_times" = true)
    (ke_many_times : PySem.W.keepIn K (.ref f_many_times) = true)
    (a_dyed : PySem.W.nsIn K mainGlobals "dyed" = some (some (.ref f_dyed)))
    (l_dyed : K.lookup f_dyed = some ⟨oc_dyed, od_dyed, .func (PySem.W.fnOf "dyed" "dyed" (defArgs s_dyed) (defBody s_dyed) (defScope s_dyed) .none kV_dyed dc_dyed pm_dyed an_dyed cd_dyed ct_dyed), sl_dyed⟩)
    (co_dyed : PySem.W.codeIn K cd_dyed "dyed" = true)
    (ke_dyed : PySem.W.keepIn K (.ref f_dyed) = true)
    (a_L_wide_k21 : PySem.W.nsIn K mainGlobals "_law_wide" = some (some (.ref f_L_wide_k21)))
    (l_L_wide_k21 : K.lookup f_L_wide_k21 = some ⟨oc_L_wide_k21, od_L_wide_k21, .func (PySem.W.fnOf "_law_wide" "_law_wide" (defArgs s_L_wide_k21) (defBody s_L_wide_k21) (defScope s_L_wide_k21) .none kV_L_wide_k21 dc_L_wide_k21 pm_L_wide_k21 an_L_wide_k21 cd_L_wide_k21 ct_L_wide_k21), sl_L_wide_k21⟩)
    (co_L_wide_k21 : PySem.W.codeIn K cd_L_wide_k21 "_law_wide" = true)
    (ke_L_wide_k21 : PySem.W.keepIn K (.ref f_L_wide_k21) = true)
    (a_L_done : PySem.W.nsIn K mainGlobals "_law_done" = some (some (.ref f_L_done)))
    (l_L_done : K.lookup f_L_done = some ⟨oc_L_done, od_L_done, .func (PySem.W.fnOf "_law_done" "_law_done" (defArgs s_L_done) (defBody s_L_done) (defScope s_L_done) .none kV_L_done dc_L_done pm_L_done an_L_done cd_L_done ct_L_done), sl_L_done⟩)
    (co_L_done : PySem.W.codeIn K cd_L_done "_law_done" = true)
    (ke_L_done : PySem.W.keepIn K (.ref f_L_done) = true)
    (a_L_which : PySem.W.nsIn K mainGlobals "_law_which" = some (some (.ref f_L_which)))
    (l_L_which : K.lookup f_L_which = some ⟨oc_L_which, od_L_which, .func (PySem.W.fnOf "_law_which" "_law_which" (defArgs s_L_which) (defBody s_L_which) (defScope s_L_which) .none kV_L_which dc_L_which pm_L_which an_L_which cd_L_which ct_L_which), sl_L_which⟩)
    (co_L_which : PySem.W.codeIn K cd_L_which "_law_which" = true)
    (ke_L_which : PySem.W.keepIn K (.ref f_L_which) = true)
    (a_law_k21 : PySem.W.nsIn K mainGlobals "law" = some (some (.ref f_law_k21)))
    (l_law_k21 : K.lookup f_law_k21 = some ⟨oc_law_k21, od_law_k21, .func (PySem.W.fnOf "law" "law" (defArgs s_law_k21) (defBody s_law_k21) (defScope s_law_k21) .none kV_law_k21 dc_law_k21 pm_law_k21 an_law_k21 cd_law_k21 ct_law_k21), sl_law_k21⟩)
    (co_law_k21 : PySem.W.codeIn K cd_law_k21 "law" = true)
    (ke_law_k21 : PySem.W.keepIn K (.ref f_law_k21) = true) :
    ∃ fd : FuncData, (∀ (s : Shared) (v : Value), BindsTo s fd ⟨[v], []⟩ [("script", v)]) ∧ ∀ base : Heap, K.In base → base.Ns mainGlobals mg → FnOk l.prog w K mg base (L2.CX l.prog w) 10 fa fd ["script"] (sp_law K) := by
  have e := hfa.symm.trans (PySem.W.mg_of X G a_law_k21)
  cases e
  have T : Txt K mg { w := w, NoNumber := D_NoNumber, NoSeat := D_NoSeat, NoSeating := D_NoSeating, NoSize := D_NoSize, NotRead := D_NotRead, OtherSize := D_OtherSize, RoomError := D_RoomError, TooMany := D_TooMany, TooWide := D_TooWide, Unreached := D_Unreached, Book := D_Book, Room := D_Room } := {
    z_ValueError := PySem.W.mg_none_of X G z_ValueError
    z_int := PySem.W.mg_none_of X G z_int
    z_isinstance := PySem.W.mg_none_of X G z_isinstance
    z_len := PySem.W.mg_none_of X G z_len
    z_list := PySem.W.mg_none_of X G z_list
    z_max := PySem.W.mg_none_of X G z_max
    z_min := PySem.W.mg_none_of X G z_min
    z_range := PySem.W.mg_none_of X G z_range
    z_reversed := PySem.W.mg_none_of X G z_reversed
    z_set := PySem.W.mg_none_of X G z_set
    z_sorted := PySem.W.mg_none_of X G z_sorted
    z_str := PySem.W.mg_none_of X G z_str
    z_tuple := PySem.W.mg_none_of X G z_tuple
    c_FIGURES := ⟨_, PySem.W.mg_of X G c_FIGURES⟩
    c_MANY := ⟨_, PySem.W.mg_of X G c_MANY⟩
    c_MOST := ⟨_, PySem.W.mg_of X G c_MOST⟩
    c_WIDE := ⟨_, PySem.W.mg_of X G c_WIDE⟩
    g_NoNumber := PySem.W.mg_of X G ga_NoNumber
    g_NoSeat := PySem.W.mg_of X G ga_NoSeat
    g_NoSeating := PySem.W.mg_of X G ga_NoSeating
    g_NoSize := PySem.W.mg_of X G ga_NoSize
    g_NotRead := PySem.W.mg_of X G ga_NotRead
    g_OtherSize := PySem.W.mg_of X G ga_OtherSize
    g_RoomError := PySem.W.mg_of X G ga_RoomError
    g_TooMany := PySem.W.mg_of X G ga_TooMany
    g_TooWide := PySem.W.mg_of X G ga_TooWide
    g_Unreached := PySem.W.mg_of X G ga_Unreached
    x_NoNumber := ⟨PySem.W.mg_of X G ga_NoNumber, xe_NoNumber, xk_NoNumber, xb_NoNumber, xt_NoNumber⟩
    x_NoSeat := ⟨PySem.W.mg_of X G ga_NoSeat, xe_NoSeat, xk_NoSeat, xb_NoSeat, xt_NoSeat⟩
    x_NoSeating := ⟨PySem.W.mg_of X G ga_NoSeating, xe_NoSeating, xk_NoSeating, xb_NoSeating, xt_NoSeating⟩
    x_NoSize := ⟨PySem.W.mg_of X G ga_NoSize, xe_NoSize, xk_NoSize, xb_NoSize, xt_NoSize⟩
    x_NotRead := ⟨PySem.W.mg_of X G ga_NotRead, xe_NotRead, xk_NotRead, xb_NotRead, xt_NotRead⟩
    x_OtherSize := ⟨PySem.W.mg_of X G ga_OtherSize, xe_OtherSize, xk_OtherSize, xb_OtherSize, xt_OtherSize⟩
    x_RoomError := ⟨PySem.W.mg_of X G ga_RoomError, xe_RoomError, xk_RoomError, xb_RoomError, xt_RoomError⟩
    x_TooMany := ⟨PySem.W.mg_of X G ga_TooMany, xe_TooMany, xk_TooMany, xb_TooMany, xt_TooMany⟩
    x_TooWide := ⟨PySem.W.mg_of X G ga_TooWide, xe_TooWide, xk_TooWide, xb_TooWide, xt_TooWide⟩
    x_Unreached := ⟨PySem.W.mg_of X G ga_Unreached, xe_Unreached, xk_Unreached, xb_Unreached, xt_Unreached⟩
    g_Book := PySem.W.mg_of X G ga_Book
    cl_Book := ⟨pg_Book, hd_Book, po_Book, sa_Book⟩
    r_Book := ⟨⟨pg_Book, hd_Book, po_Book, sa_Book⟩, na_Book_size, na_Book_steps, na_Book_made, na_Book_rows, na_Book_kept⟩
    g_Room := PySem.W.mg_of X G ga_Room
    cl_Room := ⟨pg_Room, hd_Room, po_Room, sa_Room⟩
    r_Room := ⟨⟨pg_Room, hd_Room, po_Room, sa_Room⟩, na_Room_size, na_Room_told, na_Room_book⟩
    m_NoSize_RoomError := PySem.W.exm_ref xb_RoomError hdx_RoomError xt_RoomError sb_NoSize_RoomError
    e_NoSize := ⟨eg_NoSize, ek_NoSize, xb_NoSize, hdx_NoSize, ea_NoSize, e_hn, e_ht, em_NoSize⟩
    k_NoSize_ValueError := kf_NoSize_ValueError
    k_NoSize_NoSize := kf_NoSize_NoSize
    k_NoSize_NoSeating := kf_NoSize_NoSeating
    k_NoSize_OtherSize := kf_NoSize_OtherSize
    k_NoSize_NoSeat := kf_NoSize_NoSeat
    k_NoSize_NoNumber := kf_NoSize_NoNumber
    k_NoSize_TooMany := kf_NoSize_TooMany
    k_NoSize_Unreached := kf_NoSize_Unreached
    k_NoSize_TooWide := kf_NoSize_TooWide
    k_NoSize_NotRead := kf_NoSize_NotRead
    m_NoSeating_RoomError := PySem.W.exm_ref xb_RoomError hdx_RoomError xt_RoomError sb_NoSeating_RoomError
    e_NoSeating := ⟨eg_NoSeating, ek_NoSeating, xb_NoSeating, hdx_NoSeating, ea_NoSeating, e_hn, e_ht, em_NoSeating⟩
    k_NoSeating_ValueError := kf_NoSeating_ValueError
    k_NoSeating_NoSize := kf_NoSeating_NoSize
    k_NoSeating_NoSeating := kf_NoSeating_NoSeating
    k_NoSeating_OtherSize := kf_NoSeating_OtherSize
    k_NoSeating_NoSeat := kf_NoSeating_NoSeat
    k_NoSeating_NoNumber := kf_NoSeating_NoNumber
    k_NoSeating_TooMany := kf_NoSeating_TooMany
    k_NoSeating_Unreached := kf_NoSeating_Unreached
    k_NoSeating_TooWide := kf_NoSeating_TooWide
    k_NoSeating_NotRead := kf_NoSeating_NotRead
    m_OtherSize_RoomError := PySem.W.exm_ref xb_RoomError hdx_RoomError xt_RoomError sb_OtherSize_RoomError
    e_OtherSize := ⟨eg_OtherSize, ek_OtherSize, xb_OtherSize, hdx_OtherSize, ea_OtherSize, e_hn, e_ht, em_OtherSize⟩
    k_OtherSize_ValueError := kf_OtherSize_ValueError
    k_OtherSize_NoSize := kf_OtherSize_NoSize
    k_OtherSize_NoSeating := kf_OtherSize_NoSeating
    k_OtherSize_OtherSize := kf_OtherSize_OtherSize
    k_OtherSize_NoSeat := kf_OtherSize_NoSeat
    k_OtherSize_NoNumber := kf_OtherSize_NoNumber
    k_OtherSize_TooMany := kf_OtherSize_TooMany
    k_OtherSize_Unreached := kf_OtherSize_Unreached
    k_OtherSize_TooWide := kf_OtherSize_TooWide
    k_OtherSize_NotRead := kf_OtherSize_NotRead
    m_NoSeat_RoomError := PySem.W.exm_ref xb_RoomError hdx_RoomError xt_RoomError sb_NoSeat_RoomError
    e_NoSeat := ⟨eg_NoSeat, ek_NoSeat, xb_NoSeat, hdx_NoSeat, ea_NoSeat, e_hn, e_ht, em_NoSeat⟩
    k_NoSeat_ValueError := kf_NoSeat_ValueError
    k_NoSeat_NoSize := kf_NoSeat_NoSize
    k_NoSeat_NoSeating := kf_NoSeat_NoSeating
    k_NoSeat_OtherSize := kf_NoSeat_OtherSize
    k_NoSeat_NoSeat := kf_NoSeat_NoSeat
    k_NoSeat_NoNumber := kf_NoSeat_NoNumber
    k_NoSeat_TooMany := kf_NoSeat_TooMany
    k_NoSeat_Unreached := kf_NoSeat_Unreached
    k_NoSeat_TooWide := kf_NoSeat_TooWide
    k_NoSeat_NotRead := kf_NoSeat_NotRead
    m_NoNumber_RoomError := PySem.W.exm_ref xb_RoomError hdx_RoomError xt_RoomError sb_NoNumber_RoomError
    e_NoNumber := ⟨eg_NoNumber, ek_NoNumber, xb_NoNumber, hdx_NoNumber, ea_NoNumber, e_hn, e_ht, em_NoNumber⟩
    k_NoNumber_ValueError := kf_NoNumber_ValueError
    k_NoNumber_NoSize := kf_NoNumber_NoSize
    k_NoNumber_NoSeating := kf_NoNumber_NoSeating
    k_NoNumber_OtherSize := kf_NoNumber_OtherSize
    k_NoNumber_NoSeat := kf_NoNumber_NoSeat
    k_NoNumber_NoNumber := kf_NoNumber_NoNumber
    k_NoNumber_TooMany := kf_NoNumber_TooMany
    k_NoNumber_Unreached := kf_NoNumber_Unreached
    k_NoNumber_TooWide := kf_NoNumber_TooWide
    k_NoNumber_NotRead := kf_NoNumber_NotRead
    m_TooMany_RoomError := PySem.W.exm_ref xb_RoomError hdx_RoomError xt_RoomError sb_TooMany_RoomError
    e_TooMany := ⟨eg_TooMany, ek_TooMany, xb_TooMany, hdx_TooMany, ea_TooMany, e_hn, e_ht, em_TooMany⟩
    k_TooMany_ValueError := kf_TooMany_ValueError
    k_TooMany_NoSize := kf_TooMany_NoSize
    k_TooMany_NoSeating := kf_TooMany_NoSeating
    k_TooMany_OtherSize := kf_TooMany_OtherSize
    k_TooMany_NoSeat := kf_TooMany_NoSeat
    k_TooMany_NoNumber := kf_TooMany_NoNumber
    k_TooMany_TooMany := kf_TooMany_TooMany
    k_TooMany_Unreached := kf_TooMany_Unreached
    k_TooMany_TooWide := kf_TooMany_TooWide
    k_TooMany_NotRead := kf_TooMany_NotRead
    m_Unreached_RoomError := PySem.W.exm_ref xb_RoomError hdx_RoomError xt_RoomError sb_Unreached_RoomError
    e_Unreached := ⟨eg_Unreached, ek_Unreached, xb_Unreached, hdx_Unreached, ea_Unreached, e_hn, e_ht, em_Unreached⟩
    k_Unreached_ValueError := kf_Unreached_ValueError
    k_Unreached_NoSize := kf_Unreached_NoSize
    k_Unreached_NoSeating := kf_Unreached_NoSeating
    k_Unreached_OtherSize := kf_Unreached_OtherSize
    k_Unreached_NoSeat := kf_Unreached_NoSeat
    k_Unreached_NoNumber := kf_Unreached_NoNumber
    k_Unreached_TooMany := kf_Unreached_TooMany
    k_Unreached_Unreached := kf_Unreached_Unreached
    k_Unreached_TooWide := kf_Unreached_TooWide
    k_Unreached_NotRead := kf_Unreached_NotRead
    m_TooWide_RoomError := PySem.W.exm_ref xb_RoomError hdx_RoomError xt_RoomError sb_TooWide_RoomError
    e_TooWide := ⟨eg_TooWide, ek_TooWide, xb_TooWide, hdx_TooWide, ea_TooWide, e_hn, e_ht, em_TooWide⟩
    k_TooWide_ValueError := kf_TooWide_ValueError
    k_TooWide_NoSize := kf_TooWide_NoSize
    k_TooWide_NoSeating := kf_TooWide_NoSeating
    k_TooWide_OtherSize := kf_TooWide_OtherSize
    k_TooWide_NoSeat := kf_TooWide_NoSeat
    k_TooWide_NoNumber := kf_TooWide_NoNumber
    k_TooWide_TooMany := kf_TooWide_TooMany
    k_TooWide_Unreached := kf_TooWide_Unreached
    k_TooWide_TooWide := kf_TooWide_TooWide
    k_TooWide_NotRead := kf_TooWide_NotRead
    m_NotRead_RoomError := PySem.W.exm_ref xb_RoomError hdx_RoomError xt_RoomError sb_NotRead_RoomError
    e_NotRead := ⟨eg_NotRead, ek_NotRead, xb_NotRead, hdx_NotRead, ea_NotRead, e_hn, e_ht, em_NotRead⟩
    k_NotRead_ValueError := kf_NotRead_ValueError
    k_NotRead_NoSize := kf_NotRead_NoSize
    k_NotRead_NoSeating := kf_NotRead_NoSeating
    k_NotRead_OtherSize := kf_NotRead_OtherSize
    k_NotRead_NoSeat := kf_NotRead_NoSeat
    k_NotRead_NoNumber := kf_NotRead_NoNumber
    k_NotRead_TooMany := kf_NotRead_TooMany
    k_NotRead_Unreached := kf_NotRead_Unreached
    k_NotRead_TooWide := kf_NotRead_TooWide
    k_NotRead_NotRead := kf_NotRead_NotRead
  }
  have F_L_cell_at := fun_mk (st := s_L_cell_at) l_L_cell_at co_L_cell_at ke_L_cell_at
  have b_L_cell_at := F_L_cell_at.binds (ps := ["script", "k"]) fun _ _ _ _ _ _ us hl => match us, hl with | [_, _], _ => rfl
  have F_ask_size := fun_mk (st := s_ask_size) l_ask_size co_ask_size ke_ask_size
  have b_ask_size := F_ask_size.binds (ps := ["size"]) fun _ _ _ _ _ _ us hl => match us, hl with | [_], _ => rfl
  have F_rest := fun_mk (st := s_rest) l_rest co_rest ke_rest
  have b_rest := F_rest.binds (ps := ["size"]) fun _ _ _ _ _ _ us hl => match us, hl with | [_], _ => rfl
  have F_Book_init := fun_mk (st := s_Book_init) l_Book_init co_Book_init ke_Book_init
  have b_Book_init := F_Book_init.binds (ps := ["self", "size"]) fun _ _ _ _ _ _ us hl => match us, hl with | [_, _], _ => rfl
  have F_Room_init := fun_mk (st := s_Room_init) l_Room_init co_Room_init ke_Room_init
  have b_Room_init := F_Room_init.binds (ps := ["self", "size"]) fun _ _ _ _ _ _ us hl => match us, hl with | [_, _], _ => rfl
  have F_Room_how_many := fun_mk (st := s_Room_how_many) l_Room_how_many co_Room_how_many ke_Room_how_many
  have b_Room_how_many := F_Room_how_many.binds (ps := ["self"]) fun _ _ _ _ _ _ us hl => match us, hl with | [_], _ => rfl
  have F_joined := fun_mk (st := s_joined) l_joined co_joined ke_joined
  have b_joined := F_joined.binds (ps := ["a", "b"]) fun _ _ _ _ _ _ us hl => match us, hl with | [_, _], _ => rfl
  have F_Room_numbered := fun_mk (st := s_Room_numbered) l_Room_numbered co_Room_numbered ke_Room_numbered
  have b_Room_numbered := F_Room_numbered.binds (ps := ["self", "n"]) fun _ _ _ _ _ _ us hl => match us, hl with | [_, _], _ => rfl
  have F_L_bad_k21 := fun_mk (st := s_L_bad_k21) l_L_bad_k21 co_L_bad_k21 ke_L_bad_k21
  have b_L_bad_k21 := F_L_bad_k21.binds (ps := ["cell"]) fun _ _ _ _ _ _ us hl => match us, hl with | [_], _ => rfl
  have F_L_far := fun_mk (st := s_L_far) l_L_far co_L_far ke_L_far
  have b_L_far := F_L_far.binds (ps := ["cell", "size"]) fun _ _ _ _ _ _ us hl => match us, hl with | [_, _], _ => rfl
  have F_Book_note := fun_mk (st := s_Book_note) l_Book_note co_Book_note ke_Book_note
  have b_Book_note := F_Book_note.binds (ps := ["self", "step", "seating"]) fun _ _ _ _ _ _ us hl => match us, hl with | [_, _, _], _ => rfl
  have F_turned := fun_mk (st := s_turned) l_turned co_turned ke_turned
  have b_turned := F_turned.binds (ps := ["a"]) fun _ _ _ _ _ _ us hl => match us, hl with | [_], _ => rfl
  have F_Book_keep := fun_mk (st := s_Book_keep) l_Book_keep co_Book_keep ke_Book_keep
  have b_Book_keep := F_Book_keep.binds (ps := ["self", "at", "where", "went"]) fun _ _ _ _ _ _ us hl => match us, hl with | [_, _, _, _], _ => rfl
  have F_Book_sifted := fun_mk (st := s_Book_sifted) l_Book_sifted co_Book_sifted ke_Book_sifted
  have b_Book_sifted := F_Book_sifted.binds (ps := ["self", "seating"]) fun _ _ _ _ _ _ us hl => match us, hl with | [_, _], _ => rfl
  have F_Book_close := fun_mk (st := s_Book_close) l_Book_close co_Book_close ke_Book_close
  have b_Book_close := F_Book_close.binds (ps := ["self", "first"]) fun _ _ _ _ _ _ us hl => match us, hl with | [_, _], _ => rfl
  have F_is_seating := fun_mk (st := s_is_seating) l_is_seating co_is_seating ke_is_seating
  have b_is_seating := F_is_seating.binds (ps := ["row"]) fun _ _ _ _ _ _ us hl => match us, hl with | [_], _ => rfl
  have F_ask_seating := fun_mk (st := s_ask_seating) l_ask_seating co_ask_seating ke_ask_seating
  have b_ask_seating := F_ask_seating.binds (ps := ["a"]) fun _ _ _ _ _ _ us hl => match us, hl with | [_], _ => rfl
  have F_Room_ask := fun_mk (st := s_Room_ask) l_Room_ask co_Room_ask ke_Room_ask
  have b_Room_ask := F_Room_ask.binds (ps := ["self", "a"]) fun _ _ _ _ _ _ us hl => match us, hl with | [_, _], _ => rfl
  have F_Room_put_move := fun_mk (st := s_Room_put_move) l_Room_put_move co_Room_put_move ke_Room_put_move
  have b_Room_put_move := F_Room_put_move.binds (ps := ["self", "move"]) fun _ _ _ _ _ _ us hl => match us, hl with | [_, _], _ => rfl
  have F_L_full_k21 := fun_mk (st := s_L_full_k21) l_L_full_k21 co_L_full_k21 ke_L_full_k21
  have b_L_full_k21 := F_L_full_k21.binds (ps := ["size"]) fun _ _ _ _ _ _ us hl => match us, hl with | [_], _ => rfl
  have F_Room_table := fun_mk (st := s_Room_table) l_Room_table co_Room_table ke_Room_table
  have b_Room_table := F_Room_table.binds (ps := ["self"]) fun _ _ _ _ _ _ us hl => match us, hl with | [_], _ => rfl
  have F_ask_seat := fun_mk (st := s_ask_seat) l_ask_seat co_ask_seat ke_ask_seat
  have b_ask_seat := F_ask_seat.binds (ps := ["room", "seat"]) fun _ _ _ _ _ _ us hl => match us, hl with | [_, _], _ => rfl
  have F_holding := fun_mk (st := s_holding) l_holding co_holding ke_holding
  have b_holding := F_holding.binds (ps := ["room", "seats"]) fun _ _ _ _ _ _ us hl => match us, hl with | [_, _], _ => rfl
  have F_Room_moves := fun_mk (st := s_Room_moves) l_Room_moves co_Room_moves ke_Room_moves
  have b_Room_moves := F_Room_moves.binds (ps := ["self"]) fun _ _ _ _ _ _ us hl => match us, hl with | [_], _ => rfl
  have F_one_part := fun_mk (st := s_one_part) l_one_part co_one_part ke_one_part
  have b_one_part := F_one_part.binds (ps := ["lead", "a", "b"]) fun _ _ _ _ _ _ us hl => match us, hl with | [_, _, _], _ => rfl
  have F_parting := fun_mk (st := s_parting) l_parting co_parting ke_parting
  have b_parting := F_parting.binds (ps := ["room", "one", "other"]) fun _ _ _ _ _ _ us hl => match us, hl with | [_, _, _], _ => rfl
  have F_ring_of := fun_mk (st := s_ring_of) l_ring_of co_ring_of ke_ring_of
  have b_ring_of := F_ring_of.binds (ps := ["room", "seat"]) fun _ _ _ _ _ _ us hl => match us, hl with | [_, _], _ => rfl
  have F_L_no_seat := fun_mk (st := s_L_no_seat) l_L_no_seat co_L_no_seat ke_L_no_seat
  have b_L_no_seat := F_L_no_seat.binds (ps := ["room", "seat", "way"]) fun _ _ _ _ _ _ us hl => match us, hl with | [_, _, _], _ => rfl
  have F_Room_number_of := fun_mk (st := s_Room_number_of) l_Room_number_of co_Room_number_of ke_Room_number_of
  have b_Room_number_of := F_Room_number_of.binds (ps := ["self", "a"]) fun _ _ _ _ _ _ us hl => match us, hl with | [_, _], _ => rfl
  have F_Room_reaches := fun_mk (st := s_Room_reaches) l_Room_reaches co_Room_reaches ke_Room_reaches
  have b_Room_reaches := F_Room_reaches.binds (ps := ["self", "a"]) fun _ _ _ _ _ _ us hl => match us, hl with | [_, _], _ => rfl
  have F_Room_recipe := fun_mk (st := s_Room_recipe) l_Room_recipe co_Room_recipe ke_Room_recipe
  have b_Room_recipe := F_Room_recipe.binds (ps := ["self", "a"]) fun _ _ _ _ _ _ us hl => match us, hl with | [_, _], _ => rfl
  have F_rings := fun_mk (st := s_rings) l_rings co_rings ke_rings
  have b_rings := F_rings.binds (ps := ["a"]) fun _ _ _ _ _ _ us hl => match us, hl with | [_], _ => rfl
  have F_shared := fun_mk (st := s_shared) l_shared co_shared ke_shared
  have b_shared := F_shared.binds (ps := ["one", "other"]) fun _ _ _ _ _ _ us hl => match us, hl with | [_, _], _ => rfl
  have F_age := fun_mk (st := s_age) l_age co_age ke_age
  have b_age := F_age.binds (ps := ["a"]) fun _ _ _ _ _ _ us hl => match us, hl with | [_], _ => rfl
  have F_back := fun_mk (st := s_back) l_back co_back ke_back
  have b_back := F_back.binds (ps := ["a"]) fun _ _ _ _ _ _ us hl => match us, hl with | [_], _ => rfl
  have F_even := fun_mk (st := s_even) l_even co_even ke_even
  have b_even := F_even.binds (ps := ["a"]) fun _ _ _ _ _ _ us hl => match us, hl with | [_], _ => rfl
  have F_shown := fun_mk (st := s_shown) l_shown co_shown ke_shown
  have b_shown := F_shown.binds (ps := ["a"]) fun _ _ _ _ _ _ us hl => match us, hl with | [_], _ => rfl
  have F_then := fun_mk (st := s_then) l_then co_then ke_then
  have b_then := F_then.binds (ps := ["a", "b"]) fun _ _ _ _ _ _ us hl => match us, hl with | [_, _], _ => rfl
  have F_times := fun_mk (st := s_times) l_times co_times ke_times
  have b_times := F_times.binds (ps := ["a", "n"]) fun _ _ _ _ _ _ us hl => match us, hl with | [_, _], _ => rfl
  have F_L_no_seating := fun_mk (st := s_L_no_seating) l_L_no_seating co_L_no_seating ke_L_no_seating
  have b_L_no_seating := F_L_no_seating.binds (ps := ["room", "bad", "way"]) fun _ _ _ _ _ _ us hl => match us, hl with | [_, _, _], _ => rfl
  have F_seat_of := fun_mk (st := s_seat_of) l_seat_of co_seat_of ke_seat_of
  have b_seat_of := F_seat_of.binds (ps := ["word", "size"]) fun _ _ _ _ _ _ us hl => match us, hl with | [_, _], _ => rfl
  have F_read := fun_mk (st := s_read) l_read co_read ke_read
  have b_read := F_read.binds (ps := ["text", "size"]) fun _ _ _ _ _ _ us hl => match us, hl with | [_, _], _ => rfl
  have F_L_no_size := fun_mk (st := s_L_no_size) l_L_no_size co_L_no_size ke_L_no_size
  have b_L_no_size := F_L_no_size.binds (ps := ["cell", "far"]) fun _ _ _ _ _ _ us hl => match us, hl with | [_, _], _ => rfl
  have F_within := fun_mk (st := s_within) l_within co_within ke_within
  have b_within := F_within.binds (ps := ["room", "other"]) fun _ _ _ _ _ _ us hl => match us, hl with | [_, _], _ => rfl
  have F_L_other_size := fun_mk (st := s_L_other_size) l_L_other_size co_L_other_size ke_L_other_size
  have b_L_other_size := F_L_other_size.binds (ps := ["room", "other", "way"]) fun _ _ _ _ _ _ us hl => match us, hl with | [_, _, _], _ => rfl
  have F_L_unreached := fun_mk (st := s_L_unreached) l_L_unreached co_L_unreached ke_L_unreached
  have b_L_unreached := F_L_unreached.binds (ps := ["size", "way"]) fun _ _ _ _ _ _ us hl => match us, hl with | [_, _], _ => rfl
  have F_many_times := fun_mk (st := s_many_times) l_many_times co_many_times ke_many_times
  have b_many_times := F_many_times.binds (ps := ["dyes", "count"]) fun _ _ _ _ _ _ us hl => match us, hl with | [_, _], _ => rfl
  have F_dyed := fun_mk (st := s_dyed) l_dyed co_dyed ke_dyed
  have b_dyed := F_dyed.binds (ps := ["room", "dyes"]) fun _ _ _ _ _ _ us hl => match us, hl with | [_, _], _ => rfl
  have F_L_wide_k21 := fun_mk (st := s_L_wide_k21) l_L_wide_k21 co_L_wide_k21 ke_L_wide_k21
  have b_L_wide_k21 := F_L_wide_k21.binds (ps := []) fun _ _ _ _ _ _ us hl => match us, hl with | [], _ => rfl
  have F_L_done := fun_mk (st := s_L_done) l_L_done co_L_done ke_L_done
  have b_L_done := F_L_done.binds (ps := ["way", "size", "cell", "far"]) fun _ _ _ _ _ _ us hl => match us, hl with | [_, _, _, _], _ => rfl
  have F_L_which := fun_mk (st := s_L_which) l_L_which co_L_which ke_L_which
  have b_L_which := F_L_which.binds (ps := ["e"]) fun _ _ _ _ _ _ us hl => match us, hl with | [_], _ => rfl
  have F_law_k21 := fun_mk (st := s_law_k21) l_law_k21 co_law_k21 ke_law_k21
  refine ⟨PySem.W.fnOf "law" "law" (defArgs s_law_k21) (defBody s_law_k21) (defScope s_law_k21) .none kV_law_k21 dc_law_k21 pm_law_k21 an_law_k21 cd_law_k21 ct_law_k21, fun s v => .of_eq rfl, fun base _ _ => ?_⟩
  have c_L_cell_at : Cal l.prog w K mg base 1 "_law_cell_at" ["script", "k"] (sp_L_cell_at K _) := ⟨_, _, PySem.W.mg_of X G a_L_cell_at, ke_L_cell_at, b_L_cell_at, ok_L_cell_at (P := l.prog) (w := w) (base := base) T F_L_cell_at ⟩
  have c_ask_size : Cal l.prog w K mg base 1 "ask_size" ["size"] (sp_ask_size K _) := ⟨_, _, PySem.W.mg_of X G a_ask_size, ke_ask_size, b_ask_size, ok_ask_size (P := l.prog) (w := w) (base := base) T F_ask_size ⟩
  have c_rest : Cal l.prog w K mg base 2 "rest" ["size"] (sp_rest K _) := ⟨_, _, PySem.W.mg_of X G a_rest, ke_rest, b_rest, ok_rest (P := l.prog) (w := w) (base := base) T F_rest c_ask_size⟩
  have c_Book_init : CalI l.prog w K mg base 3 D_Book ["self", "size"] (sp_Book_init K _) := ⟨_, _, ⟨mk_Book, a_Book_init, i_Book_init, kc_Book⟩, b_Book_init, ok_Book_init (P := l.prog) (w := w) (base := base) T F_Book_init c_rest⟩
  have c_Room_init : CalI l.prog w K mg base 5 D_Room ["self", "size"] (sp_Room_init K _) := ⟨_, _, ⟨mk_Room, a_Room_init, i_Room_init, kc_Room⟩, b_Room_init, ok_Room_init (P := l.prog) (w := w) (base := base) T F_Room_init c_Book_init c_ask_size⟩
  have c_Room_how_many : CalM l.prog w K mg base 1 D_Room "how_many" ["self"] (sp_Room_how_many K _) := ⟨_, _, ⟨a_Room_how_many, i_Room_how_many, ke_Room_how_many⟩, b_Room_how_many, ok_Room_how_many (P := l.prog) (w := w) (base := base) T F_Room_how_many ⟩
  have c_joined : Cal l.prog w K mg base 1 "joined" ["a", "b"] (sp_joined K _) := ⟨_, _, PySem.W.mg_of X G a_joined, ke_joined, b_joined, ok_joined (P := l.prog) (w := w) (base := base) T F_joined ⟩
  have c_Room_numbered : CalM l.prog w K mg base 3 D_Room "numbered" ["self", "n"] (sp_Room_numbered K _) := ⟨_, _, ⟨a_Room_numbered, i_Room_numbered, ke_Room_numbered⟩, b_Room_numbered, ok_Room_numbered (P := l.prog) (w := w) (base := base) T F_Room_numbered c_Room_how_many c_joined c_rest⟩
  have c_L_bad_k21 : Cal l.prog w K mg base 1 "_law_bad" ["cell"] (sp_L_bad_k21 K _) := ⟨_, _, PySem.W.mg_of X G a_L_bad_k21, ke_L_bad_k21, b_L_bad_k21, ok_L_bad_k21 (P := l.prog) (w := w) (base := base) T F_L_bad_k21 ⟩
  have c_L_far : Cal l.prog w K mg base 1 "_law_far" ["cell", "size"] (sp_L_far K _) := ⟨_, _, PySem.W.mg_of X G a_L_far, ke_L_far, b_L_far, ok_L_far (P := l.prog) (w := w) (base := base) T F_L_far ⟩
  have c_Book_note : CalM l.prog w K mg base 1 D_Book "note" ["self", "step", "seating"] (sp_Book_note K _) := ⟨_, _, ⟨a_Book_note, i_Book_note, ke_Book_note⟩, b_Book_note, ok_Book_note (P := l.prog) (w := w) (base := base) T F_Book_note ⟩
  have c_turned : Cal l.prog w K mg base 1 "turned" ["a"] (sp_turned K _) := ⟨_, _, PySem.W.mg_of X G a_turned, ke_turned, b_turned, ok_turned (P := l.prog) (w := w) (base := base) T F_turned ⟩
  have c_Book_keep : CalM l.prog w K mg base 2 D_Book "keep" ["self", "at", "where", "went"] (sp_Book_keep K _) := ⟨_, _, ⟨a_Book_keep, i_Book_keep, ke_Book_keep⟩, b_Book_keep, ok_Book_keep (P := l.prog) (w := w) (base := base) T F_Book_keep c_Book_note c_joined c_turned⟩
  have c_Book_sifted : CalM l.prog w K mg base 2 D_Book "sifted" ["self", "seating"] (sp_Book_sifted K _) := ⟨_, _, ⟨a_Book_sifted, i_Book_sifted, ke_Book_sifted⟩, b_Book_sifted, ok_Book_sifted (P := l.prog) (w := w) (base := base) T F_Book_sifted c_joined c_turned⟩
  have c_Book_close : CalM l.prog w K mg base 3 D_Book "close" ["self", "first"] (sp_Book_close K _) := ⟨_, _, ⟨a_Book_close, i_Book_close, ke_Book_close⟩, b_Book_close, ok_Book_close (P := l.prog) (w := w) (base := base) T F_Book_close c_Book_keep c_Book_note c_Book_sifted c_joined⟩
  have c_is_seating : Cal l.prog w K mg base 1 "is_seating" ["row"] (sp_is_seating K _) := ⟨_, _, PySem.W.mg_of X G a_is_seating, ke_is_seating, b_is_seating, ok_is_seating (P := l.prog) (w := w) (base := base) T F_is_seating ⟩
  have c_ask_seating : Cal l.prog w K mg base 2 "ask_seating" ["a"] (sp_ask_seating K _) := ⟨_, _, PySem.W.mg_of X G a_ask_seating, ke_ask_seating, b_ask_seating, ok_ask_seating (P := l.prog) (w := w) (base := base) T F_ask_seating c_is_seating⟩
  have c_Room_ask : CalM l.prog w K mg base 3 D_Room "ask" ["self", "a"] (sp_Room_ask K _) := ⟨_, _, ⟨a_Room_ask, i_Room_ask, ke_Room_ask⟩, b_Room_ask, ok_Room_ask (P := l.prog) (w := w) (base := base) T F_Room_ask c_ask_seating⟩
  have c_Room_put_move : CalM l.prog w K mg base 4 D_Room "put_move" ["self", "move"] (sp_Room_put_move K _) := ⟨_, _, ⟨a_Room_put_move, i_Room_put_move, ke_Room_put_move⟩, b_Room_put_move, ok_Room_put_move (P := l.prog) (w := w) (base := base) T F_Room_put_move c_Book_close c_Book_note c_Room_ask⟩
  have c_L_full_k21 : Cal l.prog w K mg base 7 "_law_full" ["size"] (sp_L_full_k21 K _) := ⟨_, _, PySem.W.mg_of X G a_L_full_k21, ke_L_full_k21, b_L_full_k21, ok_L_full_k21 (P := l.prog) (w := w) (base := base) T F_L_full_k21 c_Room_init c_Room_put_move c_rest⟩
  have c_Room_table : CalM l.prog w K mg base 1 D_Room "table" ["self"] (sp_Room_table K _) := ⟨_, _, ⟨a_Room_table, i_Room_table, ke_Room_table⟩, b_Room_table, ok_Room_table (P := l.prog) (w := w) (base := base) T F_Room_table ⟩
  have c_ask_seat : Cal l.prog w K mg base 1 "ask_seat" ["room", "seat"] (sp_ask_seat K _) := ⟨_, _, PySem.W.mg_of X G a_ask_seat, ke_ask_seat, b_ask_seat, ok_ask_seat (P := l.prog) (w := w) (base := base) T F_ask_seat ⟩
  have c_holding : Cal l.prog w K mg base 7 "holding" ["room", "seats"] (sp_holding K _) := ⟨_, _, PySem.W.mg_of X G a_holding, ke_holding, b_holding, ok_holding (P := l.prog) (w := w) (base := base) T F_holding c_Room_init c_Room_put_move c_Room_table c_ask_seat c_joined c_rest c_turned⟩
  have c_Room_moves : CalM l.prog w K mg base 1 D_Room "moves" ["self"] (sp_Room_moves K _) := ⟨_, _, ⟨a_Room_moves, i_Room_moves, ke_Room_moves⟩, b_Room_moves, ok_Room_moves (P := l.prog) (w := w) (base := base) T F_Room_moves ⟩
  have c_one_part : Cal l.prog w K mg base 1 "one_part" ["lead", "a", "b"] (sp_one_part K _) := ⟨_, _, PySem.W.mg_of X G a_one_part, ke_one_part, b_one_part, ok_one_part (P := l.prog) (w := w) (base := base) T F_one_part ⟩
  have c_parting : Cal l.prog w K mg base 2 "parting" ["room", "one", "other"] (sp_parting K _) := ⟨_, _, PySem.W.mg_of X G a_parting, ke_parting, b_parting, ok_parting (P := l.prog) (w := w) (base := base) T F_parting c_Room_moves c_ask_seat c_one_part⟩
  have c_ring_of : Cal l.prog w K mg base 2 "ring_of" ["room", "seat"] (sp_ring_of K _) := ⟨_, _, PySem.W.mg_of X G a_ring_of, ke_ring_of, b_ring_of, ok_ring_of (P := l.prog) (w := w) (base := base) T F_ring_of c_Room_moves c_ask_seat⟩
  have c_L_no_seat : Cal l.prog w K mg base 8 "_law_no_seat" ["room", "seat", "way"] (sp_L_no_seat K _) := ⟨_, _, PySem.W.mg_of X G a_L_no_seat, ke_L_no_seat, b_L_no_seat, ok_L_no_seat (P := l.prog) (w := w) (base := base) T F_L_no_seat c_holding c_parting c_ring_of⟩
  have c_Room_number_of : CalM l.prog w K mg base 4 D_Room "number_of" ["self", "a"] (sp_Room_number_of K _) := ⟨_, _, ⟨a_Room_number_of, i_Room_number_of, ke_Room_number_of⟩, b_Room_number_of, ok_Room_number_of (P := l.prog) (w := w) (base := base) T F_Room_number_of c_Room_ask c_Room_how_many c_joined c_rest⟩
  have c_Room_reaches : CalM l.prog w K mg base 4 D_Room "reaches" ["self", "a"] (sp_Room_reaches K _) := ⟨_, _, ⟨a_Room_reaches, i_Room_reaches, ke_Room_reaches⟩, b_Room_reaches, ok_Room_reaches (P := l.prog) (w := w) (base := base) T F_Room_reaches c_Book_sifted c_Room_ask⟩
  have c_Room_recipe : CalM l.prog w K mg base 4 D_Room "recipe" ["self", "a"] (sp_Room_recipe K _) := ⟨_, _, ⟨a_Room_recipe, i_Room_recipe, ke_Room_recipe⟩, b_Room_recipe, ok_Room_recipe (P := l.prog) (w := w) (base := base) T F_Room_recipe c_Book_sifted c_Room_ask⟩
  have c_rings : Cal l.prog w K mg base 3 "rings" ["a"] (sp_rings K _) := ⟨_, _, PySem.W.mg_of X G a_rings, ke_rings, b_rings, ok_rings (P := l.prog) (w := w) (base := base) T F_rings c_ask_seating⟩
  have c_shared : Cal l.prog w K mg base 1 "shared" ["one", "other"] (sp_shared K _) := ⟨_, _, PySem.W.mg_of X G a_shared, ke_shared, b_shared, ok_shared (P := l.prog) (w := w) (base := base) T F_shared ⟩
  have c_age : Cal l.prog w K mg base 4 "age" ["a"] (sp_age K _) := ⟨_, _, PySem.W.mg_of X G a_age, ke_age, b_age, ok_age (P := l.prog) (w := w) (base := base) T F_age c_rings c_shared⟩
  have c_back : Cal l.prog w K mg base 3 "back" ["a"] (sp_back K _) := ⟨_, _, PySem.W.mg_of X G a_back, ke_back, b_back, ok_back (P := l.prog) (w := w) (base := base) T F_back c_ask_seating c_turned⟩
  have c_even : Cal l.prog w K mg base 4 "even" ["a"] (sp_even K _) := ⟨_, _, PySem.W.mg_of X G a_even, ke_even, b_even, ok_even (P := l.prog) (w := w) (base := base) T F_even c_rings⟩
  have c_shown : Cal l.prog w K mg base 4 "shown" ["a"] (sp_shown K _) := ⟨_, _, PySem.W.mg_of X G a_shown, ke_shown, b_shown, ok_shown (P := l.prog) (w := w) (base := base) T F_shown c_rings⟩
  have c_then : Cal l.prog w K mg base 3 "then" ["a", "b"] (sp_then K _) := ⟨_, _, PySem.W.mg_of X G a_then, ke_then, b_then, ok_then (P := l.prog) (w := w) (base := base) T F_then c_ask_seating c_joined⟩
  have c_times : Cal l.prog w K mg base 5 "times" ["a", "n"] (sp_times K _) := ⟨_, _, PySem.W.mg_of X G a_times, ke_times, b_times, ok_times (P := l.prog) (w := w) (base := base) T F_times c_age c_joined c_rest⟩
  have c_L_no_seating : Cal l.prog w K mg base 6 "_law_no_seating" ["room", "bad", "way"] (sp_L_no_seating K _) := ⟨_, _, PySem.W.mg_of X G a_L_no_seating, ke_L_no_seating, b_L_no_seating, ok_L_no_seating (P := l.prog) (w := w) (base := base) T F_L_no_seating c_Room_number_of c_Room_put_move c_Room_reaches c_Room_recipe c_age c_back c_even c_rest c_rings c_shown c_then c_times⟩
  have c_seat_of : Cal l.prog w K mg base 1 "seat_of" ["word", "size"] (sp_seat_of K _) := ⟨_, _, PySem.W.mg_of X G a_seat_of, ke_seat_of, b_seat_of, ok_seat_of (P := l.prog) (w := w) (base := base) T F_seat_of ⟩
  have c_read : Cal l.prog w K mg base 3 "read" ["text", "size"] (sp_read K _) := ⟨_, _, PySem.W.mg_of X G a_read, ke_read, b_read, ok_read (P := l.prog) (w := w) (base := base) T F_read c_ask_size c_rest c_seat_of⟩
  have c_L_no_size : Cal l.prog w K mg base 7 "_law_no_size" ["cell", "far"] (sp_L_no_size K _) := ⟨_, _, PySem.W.mg_of X G a_L_no_size, ke_L_no_size, b_L_no_size, ok_L_no_size (P := l.prog) (w := w) (base := base) T F_L_no_size c_Room_init c_read c_rest⟩
  have c_within : Cal l.prog w K mg base 5 "within" ["room", "other"] (sp_within K _) := ⟨_, _, PySem.W.mg_of X G a_within, ke_within, b_within, ok_within (P := l.prog) (w := w) (base := base) T F_within c_Room_moves c_Room_reaches⟩
  have c_L_other_size : Cal l.prog w K mg base 7 "_law_other_size" ["room", "other", "way"] (sp_L_other_size K _) := ⟨_, _, PySem.W.mg_of X G a_L_other_size, ke_L_other_size, b_L_other_size, ok_L_other_size (P := l.prog) (w := w) (base := base) T F_L_other_size c_Room_init c_Room_number_of c_Room_put_move c_Room_reaches c_Room_recipe c_rest c_then c_within⟩
  have c_L_unreached : Cal l.prog w K mg base 7 "_law_unreached" ["size", "way"] (sp_L_unreached K _) := ⟨_, _, PySem.W.mg_of X G a_L_unreached, ke_L_unreached, b_L_unreached, ok_L_unreached (P := l.prog) (w := w) (base := base) T F_L_unreached c_Room_init c_Room_number_of c_Room_recipe⟩
  have c_many_times : Cal l.prog w K mg base 1 "many_times" ["dyes", "count"] (sp_many_times K _) := ⟨_, _, PySem.W.mg_of X G a_many_times, ke_many_times, b_many_times, ok_many_times (P := l.prog) (w := w) (base := base) T F_many_times ⟩
  have c_dyed : Cal l.prog w K mg base 4 "dyed" ["room", "dyes"] (sp_dyed K _) := ⟨_, _, PySem.W.mg_of X G a_dyed, ke_dyed, b_dyed, ok_dyed (P := l.prog) (w := w) (base := base) T F_dyed c_Room_how_many c_Room_numbered c_many_times c_rings⟩
  have c_L_wide_k21 : Cal l.prog w K mg base 7 "_law_wide" [] (sp_L_wide_k21 K _) := ⟨_, _, PySem.W.mg_of X G a_L_wide_k21, ke_L_wide_k21, b_L_wide_k21, ok_L_wide_k21 (P := l.prog) (w := w) (base := base) T F_L_wide_k21 c_Room_init c_Room_put_move c_dyed⟩
  have c_L_done : Cal l.prog w K mg base 9 "_law_done" ["way", "size", "cell", "far"] (sp_L_done K _) := ⟨_, _, PySem.W.mg_of X G a_L_done, ke_L_done, b_L_done, ok_L_done (P := l.prog) (w := w) (base := base) T F_L_done c_Room_init c_Room_numbered c_L_bad_k21 c_L_far c_L_full_k21 c_L_no_seat c_L_no_seating c_L_no_size c_L_other_size c_L_unreached c_L_wide_k21 c_dyed c_read⟩
  have c_L_which : CalE l.prog w K mg base 1 "_law_which" "e" (sp_L_which K _) := ok_L_which (P := l.prog) (w := w) (base := base) T F_L_which (PySem.W.mg_of X G a_L_which) ke_L_which b_L_which
  exact ok_law_k21 (P := l.prog) (w := w) (base := base) T F_law_k21 c_L_cell_at c_L_done c_L_which
theorem walk {l : PySem.W.OpenLaw} {q : Program} {loose : List Str} {XP : (Str → Option Value) → Heap → Prop} {YP : World → Heap → Prop} {d : DefRec} {K : Params → PySem.W.Frag} (hn : l.most = some 63) (hdf : d.params.defaults = [])
    (hY : ∀ (w : World) (h : Heap), YP w h → (K w.params).In h)
    (F : ∀ (w : World) (mg : Str → Option Value) (fa : Addr) (h : Heap), (K w.params).In h → h.Ns mainGlobals mg → mg d.name = some (.ref fa) →
      ∃ fd : FuncData, (∀ (s : Shared) (u : Value), BindsTo s fd ⟨[u], []⟩ [("script", u)]) ∧ ∀ base : Heap, (K w.params).In base → base.Ns mainGlobals mg → FnOk l.prog w (K w.params) mg base (L2.CX l.prog w) 10 fa fd ["script"] (sp_law (K w.params))) :
    PySem.W.WalkO q loose XP YP l.row.toRowW d [] (fun f vs => PySem.call f vs) :=
  L2.walk_of (n := 63) (k := 10) (x := "script") (CX := fun w => L2.CX l.prog w) (sp := fun w => sp_law (K w.params)) hn (by decide) hdf ⟨rfl, by decide, by decide⟩ hY F (fun _ _ a ns hl _ hS => ⟨a, ns, rfl, hS, hl, fun _ => rfl⟩) fun _ _ _ _ _ z => cx_none z
end Shf
open PySem PySem.W PyProof.Rows
set_option maxRecDepth 100000 in
set_option maxHeartbeats 0 in
theorem PySem.Challenge.cw_shiftroom_k21_each_refusal_its_own_holds : PySem.Challenge.rw_shiftroom_k21_each_refusal_its_own.Holds := by
  w_on; o_law; k_head; (case hw => w_witness2)
  k_fill
  refine Shf.walk (l := PySem.Challenge.rw_shiftroom_k21_each_refusal_its_own) rfl rfl (fun w h Y => PySem.W.kIn_of Y) ?F
  case F =>
    intro w mg fa h KX G hmg
    refine' Shf.all_mk KX G hmg ?z_ValueError ?z_int ?z_isinstance ?z_len ?z_list ?z_max ?z_min ?z_range ?z_reversed ?z_set ?z_sorted ?z_str ?z_tuple ?c_FIGURES ?c_MANY ?c_MOST ?c_WIDE ?ga_NoNumber ?xe_NoNumber ?xk_NoNumber ?xb_NoNumber ?xt_NoNumber ?ga_NoSeat ?xe_NoSeat ?xk_NoSeat ?xb_NoSeat ?xt_NoSeat ?ga_NoSeating ?xe_NoSeating ?xk_NoSeating ?xb_NoSeating ?xt_NoSeating ?ga_NoSize ?xe_NoSize ?xk_NoSize ?xb_NoSize ?xt_NoSize ?ga_NotRead ?xe_NotRead ?xk_NotRead ?xb_NotRead ?xt_NotRead ?ga_OtherSize ?xe_OtherSize ?xk_OtherSize ?xb_OtherSize ?xt_OtherSize ?ga_RoomError ?xe_RoomError ?xk_RoomError ?xb_RoomError ?xt_RoomError ?ga_TooMany ?xe_TooMany ?xk_TooMany ?xb_TooMany ?xt_TooMany ?ga_TooWide ?xe_TooWide ?xk_TooWide ?xb_TooWide ?xt_TooWide ?ga_Unreached ?xe_Unreached ?xk_Unreached ?xb_Unreached ?xt_Unreached ?ga_Book ?pg_Book ?hd_Book ?po_Book ?sa_Book ?na_Book_size ?na_Book_steps ?na_Book_made ?na_Book_rows ?na_Book_kept ?mk_Book ?kc_Book ?ga_Room ?pg_Room ?hd_Room ?po_Room ?sa_Room ?na_Room_size ?na_Room_told ?na_Room_book ?mk_Room ?kc_Room ?hdx_RoomError ?sb_NoSize_RoomError ?eg_NoSize ?ek_NoSize ?hdx_NoSize ?ea_NoSize ?e_hn ?e_ht ?em_NoSize ?kf_NoSize_ValueError ?kf_NoSize_NoSize ?kf_NoSize_NoSeating ?kf_NoSize_OtherSize ?kf_NoSize_NoSeat ?kf_NoSize_NoNumber ?kf_NoSize_TooMany ?kf_NoSize_Unreached ?kf_NoSize_TooWide ?kf_NoSize_NotRead ?sb_NoSeating_RoomError ?eg_NoSeating ?ek_NoSeating ?hdx_NoSeating ?ea_NoSeating ?em_NoSeating ?kf_NoSeating_ValueError ?kf_NoSeating_NoSize ?kf_NoSeating_NoSeating ?kf_NoSeating_OtherSize ?kf_NoSeating_NoSeat ?kf_NoSeating_NoNumber ?kf_NoSeating_TooMany ?kf_NoSeating_Unreached ?kf_NoSeating_TooWide ?kf_NoSeating_NotRead ?sb_OtherSize_RoomError ?eg_OtherSize ?ek_OtherSize ?hdx_OtherSize ?ea_OtherSize ?em_OtherSize ?kf_OtherSize_ValueError ?kf_OtherSize_NoSize ?kf_OtherSize_NoSeating ?kf_OtherSize_OtherSize ?kf_OtherSize_NoSeat ?kf_OtherSize_NoNumber ?kf_OtherSize_TooMany ?kf_OtherSize_Unreached ?kf_OtherSize_TooWide ?kf_OtherSize_NotRead ?sb_NoSeat_RoomError ?eg_NoSeat ?ek_NoSeat ?hdx_NoSeat ?ea_NoSeat ?em_NoSeat ?kf_NoSeat_ValueError ?kf_NoSeat_NoSize ?kf_NoSeat_NoSeating ?kf_NoSeat_OtherSize ?kf_NoSeat_NoSeat ?kf_NoSeat_NoNumber ?kf_NoSeat_TooMany ?kf_NoSeat_Unreached ?kf_NoSeat_TooWide ?kf_NoSeat_NotRead ?sb_NoNumber_RoomError ?eg_NoNumber ?ek_NoNumber ?hdx_NoNumber ?ea_NoNumber ?em_NoNumber ?kf_NoNumber_ValueError ?kf_NoNumber_NoSize ?kf_NoNumber_NoSeating ?kf_NoNumber_OtherSize ?kf_NoNumber_NoSeat ?kf_NoNumber_NoNumber ?kf_NoNumber_TooMany ?kf_NoNumber_Unreached ?kf_NoNumber_TooWide ?kf_NoNumber_NotRead ?sb_TooMany_RoomError ?eg_TooMany ?ek_TooMany ?hdx_TooMany ?ea_TooMany ?em_TooMany ?kf_TooMany_ValueError ?kf_TooMany_NoSize ?kf_TooMany_NoSeating ?kf_TooMany_OtherSize ?kf_TooMany_NoSeat ?kf_TooMany_NoNumber ?kf_TooMany_TooMany ?kf_TooMany_Unreached ?kf_TooMany_TooWide ?kf_TooMany_NotRead ?sb_Unreached_RoomError ?eg_Unreached ?ek_Unreached ?hdx_Unreached ?ea_Unreached ?em_Unreached ?kf_Unreached_ValueError ?kf_Unreached_NoSize ?kf_Unreached_NoSeating ?kf_Unreached_OtherSize ?kf_Unreached_NoSeat ?kf_Unreached_NoNumber ?kf_Unreached_TooMany ?kf_Unreached_Unreached ?kf_Unreached_TooWide ?kf_Unreached_NotRead ?sb_TooWide_RoomError ?eg_TooWide ?ek_TooWide ?hdx_TooWide ?ea_TooWide ?em_TooWide ?kf_TooWide_ValueError ?kf_TooWide_NoSize ?kf_TooWide_NoSeating ?kf_TooWide_OtherSize ?kf_TooWide_NoSeat ?kf_TooWide_NoNumber ?kf_TooWide_TooMany ?kf_TooWide_Unreached ?kf_TooWide_TooWide ?kf_TooWide_NotRead ?sb_NotRead_RoomError ?eg_NotRead ?ek_NotRead ?hdx_NotRead ?ea_NotRead ?em_NotRead ?kf_NotRead_ValueError ?kf_NotRead_NoSize ?kf_NotRead_NoSeating ?kf_NotRead_OtherSize ?kf_NotRead_NoSeat ?kf_NotRead_NoNumber ?kf_NotRead_TooMany ?kf_NotRead_Unreached ?kf_NotRead_TooWide ?kf_NotRead_NotRead ?a_L_cell_at ?l_L_cell_at ?co_L_cell_at ?ke_L_cell_at ?a_ask_size ?l_ask_size ?co_ask_size ?ke_ask_size ?a_rest ?l_rest ?co_rest ?ke_rest ?a_Book_init ?i_Book_init ?l_Book_init ?co_Book_init ?ke_Book_init ?a_Room_init ?i_Room_init ?l_Room_init ?co_Room_init ?ke_Room_init ?a_Room_how_many ?i_Room_how_many ?l_Room_how_many ?co_Room_how_many ?ke_Room_how_many ?a_joined ?l_joined ?co_joined ?ke_joined ?a_Room_numbered ?i_Room_numbered ?l_Room_numbered ?co_Room_numbered ?ke_Room_numbered ?a_L_bad_k21 ?l_L_bad_k21 ?co_L_bad_k21 ?ke_L_bad_k21 ?a_L_far ?l_L_far ?co_L_far ?ke_L_far ?a_Book_note ?i_Book_note ?l_Book_note ?co_Book_note ?ke_Book_note ?a_turned ?l_turned ?co_turned ?ke_turned ?a_Book_keep ?i_Book_keep ?l_Book_keep ?co_Book_keep ?ke_Book_keep ?a_Book_sifted ?i_Book_sifted ?l_Book_sifted ?co_Book_sifted ?ke_Book_sifted ?a_Book_close ?i_Book_close ?l_Book_close ?co_Book_close ?ke_Book_close ?a_is_seating ?l_is_seating ?co_is_seating ?ke_is_seating ?a_ask_seating ?l_ask_seating ?co_ask_seating ?ke_ask_seating ?a_Room_ask ?i_Room_ask ?l_Room_ask ?co_Room_ask ?ke_Room_ask ?a_Room_put_move ?i_Room_put_move ?l_Room_put_move ?co_Room_put_move ?ke_Room_put_move ?a_L_full_k21 ?l_L_full_k21 ?co_L_full_k21 ?ke_L_full_k21 ?a_Room_table ?i_Room_table ?l_Room_table ?co_Room_table ?ke_Room_table ?a_ask_seat ?l_ask_seat ?co_ask_seat ?ke_ask_seat ?a_holding ?l_holding ?co_holding ?ke_holding ?a_Room_moves ?i_Room_moves ?l_Room_moves ?co_Room_moves ?ke_Room_moves ?a_one_part ?l_one_part ?co_one_part ?ke_one_part ?a_parting ?l_parting ?co_parting ?ke_parting ?a_ring_of ?l_ring_of ?co_ring_of ?ke_ring_of ?a_L_no_seat ?l_L_no_seat ?co_L_no_seat ?ke_L_no_seat ?a_Room_number_of ?i_Room_number_of ?l_Room_number_of ?co_Room_number_of ?ke_Room_number_of ?a_Room_reaches ?i_Room_reaches ?l_Room_reaches ?co_Room_reaches ?ke_Room_reaches ?a_Room_recipe ?i_Room_recipe ?l_Room_recipe ?co_Room_recipe ?ke_Room_recipe ?a_rings ?l_rings ?co_rings ?ke_rings ?a_shared ?l_shared ?co_shared ?ke_shared ?a_age ?l_age ?co_age ?ke_age ?a_back ?l_back ?co_back ?ke_back ?a_even ?l_even ?co_even ?ke_even ?a_shown ?l_shown ?co_shown ?ke_shown ?a_then ?l_then ?co_then ?ke_then ?a_times ?l_times ?co_times ?ke_times ?a_L_no_seating ?l_L_no_seating ?co_L_no_seating ?ke_L_no_seating ?a_seat_of ?l_seat_of ?co_seat_of ?ke_seat_of ?a_read ?l_read ?co_read ?ke_read ?a_L_no_size ?l_L_no_size ?co_L_no_size ?ke_L_no_size ?a_within ?l_within ?co_within ?ke_within ?a_L_other_size ?l_L_other_size ?co_L_other_size ?ke_L_other_size ?a_L_unreached ?l_L_unreached ?co_L_unreached ?ke_L_unreached ?a_many_times ?l_many_times ?co_many_times ?ke_many_times ?a_dyed ?l_dyed ?co_dyed ?ke_dyed ?a_L_wide_k21 ?l_L_wide_k21 ?co_L_wide_k21 ?ke_L_wide_k21 ?a_L_done ?l_L_done ?co_L_done ?ke_L_done ?a_L_which ?l_L_which ?co_L_which ?ke_L_which ?a_law_k21 ?l_law_k21 ?co_law_k21 ?ke_law_k21
    (case z_ValueError => k_is)
    (case z_int => k_is)
    (case z_isinstance => k_is)
    (case z_len => k_is)
    (case z_list => k_is)
    (case z_max => k_is)
    (case z_min => k_is)
    (case z_range => k_is)
    (case z_reversed => k_is)
    (case z_set => k_is)
    (case z_sorted => k_is)
    (case z_str => k_is)
    (case z_tuple => k_is)
    (case c_FIGURES => k_is)
    (case c_MANY => k_is)
    (case c_MOST => k_is)
    (case c_WIDE => k_is)
    (case ga_NoNumber => k_is)
    (case xe_NoNumber => k_exc)
    (case xk_NoNumber => k_is)
    (case xb_NoNumber => k_is)
    (case xt_NoNumber => k_is)
    (case ga_NoSeat => k_is)
    (case xe_NoSeat => k_exc)
    (case xk_NoSeat => k_is)
    (case xb_NoSeat => k_is)
    (case xt_NoSeat => k_is)
    (case ga_NoSeating => k_is)
    (case xe_NoSeating => k_exc)
    (case xk_NoSeating => k_is)
    (case xb_NoSeating => k_is)
    (case xt_NoSeating => k_is)
    (case ga_NoSize => k_is)
    (case xe_NoSize => k_exc)
    (case xk_NoSize => k_is)
    (case xb_NoSize => k_is)
    (case xt_NoSize => k_is)
    (case ga_NotRead => k_is)
    (case xe_NotRead => k_exc)
    (case xk_NotRead => k_is)
    (case xb_NotRead => k_is)
    (case xt_NotRead => k_is)
    (case ga_OtherSize => k_is)
    (case xe_OtherSize => k_exc)
    (case xk_OtherSize => k_is)
    (case xb_OtherSize => k_is)
    (case xt_OtherSize => k_is)
    (case ga_RoomError => k_is)
    (case xe_RoomError => k_exc)
    (case xk_RoomError => k_is)
    (case xb_RoomError => k_is)
    (case xt_RoomError => k_is)
    (case ga_TooMany => k_is)
    (case xe_TooMany => k_exc)
    (case xk_TooMany => k_is)
    (case xb_TooMany => k_is)
    (case xt_TooMany => k_is)
    (case ga_TooWide => k_is)
    (case xe_TooWide => k_exc)
    (case xk_TooWide => k_is)
    (case xb_TooWide => k_is)
    (case xt_TooWide => k_is)
    (case ga_Unreached => k_is)
    (case xe_Unreached => k_exc)
    (case xk_Unreached => k_is)
    (case xb_Unreached => k_is)
    (case xt_Unreached => k_is)
    (case ga_Book => k_is)
    (case pg_Book => k_is)
    (case hd_Book => k_is)
    (case po_Book => k_is)
    (case sa_Book => k_is)
    (case na_Book_size => k_is)
    (case na_Book_steps => k_is)
    (case na_Book_made => k_is)
    (case na_Book_rows => k_is)
    (case na_Book_kept => k_is)
    (case mk_Book => k_is)
    (case kc_Book => k_is)
    (case ga_Room => k_is)
    (case pg_Room => k_is)
    (case hd_Room => k_is)
    (case po_Room => k_is)
    (case sa_Room => k_is)
    (case na_Room_size => k_is)
    (case na_Room_told => k_is)
    (case na_Room_book => k_is)
    (case mk_Room => k_is)
    (case kc_Room => k_is)
    (case hdx_RoomError => k_is)
    (case sb_NoSize_RoomError => k_is)
    (case eg_NoSize => k_is)
    (case ek_NoSize => k_is)
    (case hdx_NoSize => k_is)
    (case ea_NoSize => k_is)
    (case e_hn => k_is)
    (case e_ht => k_is)
    (case em_NoSize => k_is)
    (case kf_NoSize_ValueError => kit_is)
    (case kf_NoSize_NoSize => kit_is)
    (case kf_NoSize_NoSeating => kit_is)
    (case kf_NoSize_OtherSize => kit_is)
    (case kf_NoSize_NoSeat => kit_is)
    (case kf_NoSize_NoNumber => kit_is)
    (case kf_NoSize_TooMany => kit_is)
    (case kf_NoSize_Unreached => kit_is)
    (case kf_NoSize_TooWide => kit_is)
    (case kf_NoSize_NotRead => kit_is)
    (case sb_NoSeating_RoomError => k_is)
    (case eg_NoSeating => k_is)
    (case ek_NoSeating => k_is)
    (case hdx_NoSeating => k_is)
    (case ea_NoSeating => k_is)
    (case em_NoSeating => k_is)
    (case kf_NoSeating_ValueError => kit_is)
    (case kf_NoSeating_NoSize => kit_is)
    (case kf_NoSeating_NoSeating => kit_is)
    (case kf_NoSeating_OtherSize => kit_is)
    (case kf_NoSeating_NoSeat => kit_is)
    (case kf_NoSeating_NoNumber => kit_is)
    (case kf_NoSeating_TooMany => kit_is)
    (case kf_NoSeating_Unreached => kit_is)
    (case kf_NoSeating_TooWide => kit_is)
    (case kf_NoSeating_NotRead => kit_is)
    (case sb_OtherSize_RoomError => k_is)
    (case eg_OtherSize => k_is)
    (case ek_OtherSize => k_is)
    (case hdx_OtherSize => k_is)
    (case ea_OtherSize => k_is)
    (case em_OtherSize => k_is)
    (case kf_OtherSize_ValueError => kit_is)
    (case kf_OtherSize_NoSize => kit_is)
    (case kf_OtherSize_NoSeating => kit_is)
    (case kf_OtherSize_OtherSize => kit_is)
    (case kf_OtherSize_NoSeat => kit_is)
    (case kf_OtherSize_NoNumber => kit_is)
    (case kf_OtherSize_TooMany => kit_is)
    (case kf_OtherSize_Unreached => kit_is)
    (case kf_OtherSize_TooWide => kit_is)
    (case kf_OtherSize_NotRead => kit_is)
    (case sb_NoSeat_RoomError => k_is)
    (case eg_NoSeat => k_is)
    (case ek_NoSeat => k_is)
    (case hdx_NoSeat => k_is)
    (case ea_NoSeat => k_is)
    (case em_NoSeat => k_is)
    (case kf_NoSeat_ValueError => kit_is)
    (case kf_NoSeat_NoSize => kit_is)
    (case kf_NoSeat_NoSeating => kit_is)
    (case kf_NoSeat_OtherSize => kit_is)
    (case kf_NoSeat_NoSeat => kit_is)
    (case kf_NoSeat_NoNumber => kit_is)
    (case kf_NoSeat_TooMany => kit_is)
    (case kf_NoSeat_Unreached => kit_is)
    (case kf_NoSeat_TooWide => kit_is)
    (case kf_NoSeat_NotRead => kit_is)
    (case sb_NoNumber_RoomError => k_is)
    (case eg_NoNumber => k_is)
    (case ek_NoNumber => k_is)
    (case hdx_NoNumber => k_is)
    (case ea_NoNumber => k_is)
    (case em_NoNumber => k_is)
    (case kf_NoNumber_ValueError => kit_is)
    (case kf_NoNumber_NoSize => kit_is)
    (case kf_NoNumber_NoSeating => kit_is)
    (case kf_NoNumber_OtherSize => kit_is)
    (case kf_NoNumber_NoSeat => kit_is)
    (case kf_NoNumber_NoNumber => kit_is)
    (case kf_NoNumber_TooMany => kit_is)
    (case kf_NoNumber_Unreached => kit_is)
    (case kf_NoNumber_TooWide => kit_is)
    (case kf_NoNumber_NotRead => kit_is)
    (case sb_TooMany_RoomError => k_is)
    (case eg_TooMany => k_is)
    (case ek_TooMany => k_is)
    (case hdx_TooMany => k_is)
    (case ea_TooMany => k_is)
    (case em_TooMany => k_is)
    (case kf_TooMany_ValueError => kit_is)
    (case kf_TooMany_NoSize => kit_is)
    (case kf_TooMany_NoSeating => kit_is)
    (case kf_TooMany_OtherSize => kit_is)
    (case kf_TooMany_NoSeat => kit_is)
    (case kf_TooMany_NoNumber => kit_is)
    (case kf_TooMany_TooMany => kit_is)
    (case kf_TooMany_Unreached => kit_is)
    (case kf_TooMany_TooWide => kit_is)
    (case kf_TooMany_NotRead => kit_is)
    (case sb_Unreached_RoomError => k_is)
    (case eg_Unreached => k_is)
    (case ek_Unreached => k_is)
    (case hdx_Unreached => k_is)
    (case ea_Unreached => k_is)
    (case em_Unreached => k_is)
    (case kf_Unreached_ValueError => kit_is)
    (case kf_Unreached_NoSize => kit_is)
    (case kf_Unreached_NoSeating => kit_is)
    (case kf_Unreached_OtherSize => kit_is)
    (case kf_Unreached_NoSeat => kit_is)
    (case kf_Unreached_NoNumber => kit_is)
    (case kf_Unreached_TooMany => kit_is)
    (case kf_Unreached_Unreached => kit_is)
    (case kf_Unreached_TooWide => kit_is)
    (case kf_Unreached_NotRead => kit_is)
    (case sb_TooWide_RoomError => k_is)
    (case eg_TooWide => k_is)
    (case ek_TooWide => k_is)
    (case hdx_TooWide => k_is)
    (case ea_TooWide => k_is)
    (case em_TooWide => k_is)
    (case kf_TooWide_ValueError => kit_is)
    (case kf_TooWide_NoSize => kit_is)
    (case kf_TooWide_NoSeating => kit_is)
    (case kf_TooWide_OtherSize => kit_is)
    (case kf_TooWide_NoSeat => kit_is)
    (case kf_TooWide_NoNumber => kit_is)
    (case kf_TooWide_TooMany => kit_is)
    (case kf_TooWide_Unreached => kit_is)
    (case kf_TooWide_TooWide => kit_is)
    (case kf_TooWide_NotRead => kit_is)
    (case sb_NotRead_RoomError => k_is)
    (case eg_NotRead => k_is)
    (case ek_NotRead => k_is)
    (case hdx_NotRead => k_is)
    (case ea_NotRead => k_is)
    (case em_NotRead => k_is)
    (case kf_NotRead_ValueError => kit_is)
    (case kf_NotRead_NoSize => kit_is)
    (case kf_NotRead_NoSeating => kit_is)
    (case kf_NotRead_OtherSize => kit_is)
    (case kf_NotRead_NoSeat => kit_is)
    (case kf_NotRead_NoNumber => kit_is)
    (case kf_NotRead_TooMany => kit_is)
    (case kf_NotRead_Unreached => kit_is)
    (case kf_NotRead_TooWide => kit_is)
    (case kf_NotRead_NotRead => kit_is)
    (case a_L_cell_at => k_is)
    (case l_L_cell_at => k_is)
    (case co_L_cell_at => k_is)
    (case ke_L_cell_at => k_is)
    (case a_ask_size => k_is)
    (case l_ask_size => k_is)
    (case co_ask_size => k_is)
    (case ke_ask_size => k_is)
    (case a_rest => k_is)
    (case l_rest => k_is)
    (case co_rest => k_is)
    (case ke_rest => k_is)
    (case a_Book_init => k_is)
    (case i_Book_init => k_is)
    (case l_Book_init => k_is)
    (case co_Book_init => k_is)
    (case ke_Book_init => k_is)
    (case a_Room_init => k_is)
    (case i_Room_init => k_is)
    (case l_Room_init => k_is)
    (case co_Room_init => k_is)
    (case ke_Room_init => k_is)
    (case a_Room_how_many => k_is)
    (case i_Room_how_many => k_is)
    (case l_Room_how_many => k_is)
    (case co_Room_how_many => k_is)
    (case ke_Room_how_many => k_is)
    (case a_joined => k_is)
    (case l_joined => k_is)
    (case co_joined => k_is)
    (case ke_joined => k_is)
    (case a_Room_numbered => k_is)
    (case i_Room_numbered => k_is)
    (case l_Room_numbered => k_is)
    (case co_Room_numbered => k_is)
    (case ke_Room_numbered => k_is)
    (case a_L_bad_k21 => k_is)
    (case l_L_bad_k21 => k_is)
    (case co_L_bad_k21 => k_is)
    (case ke_L_bad_k21 => k_is)
    (case a_L_far => k_is)
    (case l_L_far => k_is)
    (case co_L_far => k_is)
    (case ke_L_far => k_is)
    (case a_Book_note => k_is)
    (case i_Book_note => k_is)
    (case l_Book_note => k_is)
    (case co_Book_note => k_is)
    (case ke_Book_note => k_is)
    (case a_turned => k_is)
    (case l_turned => k_is)
    (case co_turned => k_is)
    (case ke_turned => k_is)
    (case a_Book_keep => k_is)
    (case i_Book_keep => k_is)
    (case l_Book_keep => k_is)
    (case co_Book_keep => k_is)
    (case ke_Book_keep => k_is)
    (case a_Book_sifted => k_is)
    (case i_Book_sifted => k_is)
    (case l_Book_sifted => k_is)
    (case co_Book_sifted => k_is)
    (case ke_Book_sifted => k_is)
    (case a_Book_close => k_is)
    (case i_Book_close => k_is)
    (case l_Book_close => k_is)
    (case co_Book_close => k_is)
    (case ke_Book_close => k_is)
    (case a_is_seating => k_is)
    (case l_is_seating => k_is)
    (case co_is_seating => k_is)
    (case ke_is_seating => k_is)
    (case a_ask_seating => k_is)
    (case l_ask_seating => k_is)
    (case co_ask_seating => k_is)
    (case ke_ask_seating => k_is)
    (case a_Room_ask => k_is)
    (case i_Room_ask => k_is)
    (case l_Room_ask => k_is)
    (case co_Room_ask => k_is)
    (case ke_Room_ask => k_is)
    (case a_Room_put_move => k_is)
    (case i_Room_put_move => k_is)
    (case l_Room_put_move => k_is)
    (case co_Room_put_move => k_is)
    (case ke_Room_put_move => k_is)
    (case a_L_full_k21 => k_is)
    (case l_L_full_k21 => k_is)
    (case co_L_full_k21 => k_is)
    (case ke_L_full_k21 => k_is)
    (case a_Room_table => k_is)
    (case i_Room_table => k_is)
    (case l_Room_table => k_is)
    (case co_Room_table => k_is)
    (case ke_Room_table => k_is)
    (case a_ask_seat => k_is)
    (case l_ask_seat => k_is)
    (case co_ask_seat => k_is)
    (case ke_ask_seat => k_is)
    (case a_holding => k_is)
    (case l_holding => k_is)
    (case co_holding => k_is)
    (case ke_holding => k_is)
    (case a_Room_moves => k_is)
    (case i_Room_moves => k_is)
    (case l_Room_moves => k_is)
    (case co_Room_moves => k_is)
    (case ke_Room_moves => k_is)
    (case a_one_part => k_is)
    (case l_one_part => k_is)
    (case co_one_part => k_is)
    (case ke_one_part => k_is)
    (case a_parting => k_is)
    (case l_parting => k_is)
    (case co_parting => k_is)
    (case ke_parting => k_is)
    (case a_ring_of => k_is)
    (case l_ring_of => k_is)
    (case co_ring_of => k_is)
    (case ke_ring_of => k_is)
    (case a_L_no_seat => k_is)
    (case l_L_no_seat => k_is)
    (case co_L_no_seat => k_is)
    (case ke_L_no_seat => k_is)
    (case a_Room_number_of => k_is)
    (case i_Room_number_of => k_is)
    (case l_Room_number_of => k_is)
    (case co_Room_number_of => k_is)
    (case ke_Room_number_of => k_is)
    (case a_Room_reaches => k_is)
    (case i_Room_reaches => k_is)
    (case l_Room_reaches => k_is)
    (case co_Room_reaches => k_is)
    (case ke_Room_reaches => k_is)
    (case a_Room_recipe => k_is)
    (case i_Room_recipe => k_is)
    (case l_Room_recipe => k_is)
    (case co_Room_recipe => k_is)
    (case ke_Room_recipe => k_is)
    (case a_rings => k_is)
    (case l_rings => k_is)
    (case co_rings => k_is)
    (case ke_rings => k_is)
    (case a_shared => k_is)
    (case l_shared => k_is)
    (case co_shared => k_is)
    (case ke_shared => k_is)
    (case a_age => k_is)
    (case l_age => k_is)
    (case co_age => k_is)
    (case ke_age => k_is)
    (case a_back => k_is)
    (case l_back => k_is)
    (case co_back => k_is)
    (case ke_back => k_is)
    (case a_even => k_is)
    (case l_even => k_is)
    (case co_even => k_is)
    (case ke_even => k_is)
    (case a_shown => k_is)
    (case l_shown => k_is)
    (case co_shown => k_is)
    (case ke_shown => k_is)
    (case a_then => k_is)
    (case l_then => k_is)
    (case co_then => k_is)
    (case ke_then => k_is)
    (case a_times => k_is)
    (case l_times => k_is)
    (case co_times => k_is)
    (case ke_times => k_is)
    (case a_L_no_seating => k_is)
    (case l_L_no_seating => k_is)
    (case co_L_no_seating => k_is)
    (case ke_L_no_seating => k_is)
    (case a_seat_of => k_is)
    (case l_seat_of => k_is)
    (case co_seat_of => k_is)
    (case ke_seat_of => k_is)
    (case a_read => k_is)
    (case l_read => k_is)
    (case co_read => k_is)
    (case ke_read => k_is)
    (case a_L_no_size => k_is)
    (case l_L_no_size => k_is)
    (case co_L_no_size => k_is)
    (case ke_L_no_size => k_is)
    (case a_within => k_is)
    (case l_within => k_is)
    (case co_within => k_is)
    (case ke_within => k_is)
    (case a_L_other_size => k_is)
    (case l_L_other_size => k_is)
    (case co_L_other_size => k_is)
    (case ke_L_other_size => k_is)
    (case a_L_unreached => k_is)
    (case l_L_unreached => k_is)
    (case co_L_unreached => k_is)
    (case ke_L_unreached => k_is)
    (case a_many_times => k_is)
    (case l_many_times => k_is)
    (case co_many_times => k_is)
    (case ke_many_times => k_is)
    (case a_dyed => k_is)
    (case l_dyed => k_is)
    (case co_dyed => k_is)
    (case ke_dyed => k_is)
    (case a_L_wide_k21 => k_is)
    (case l_L_wide_k21 => k_is)
    (case co_L_wide_k21 => k_is)
    (case ke_L_wide_k21 => k_is)
    (case a_L_done => k_is)
    (case l_L_done => k_is)
    (case co_L_done => k_is)
    (case ke_L_done => k_is)
    (case a_L_which => k_is)
    (case l_L_which => k_is)
    (case co_L_which => k_is)
    (case ke_L_which => k_is)
    (case a_law_k21 => k_is)
    (case l_law_k21 => k_is)
    (case co_law_k21 => k_is)
    (case ke_law_k21 => k_is)
#print axioms PySem.Challenge.cw_shiftroom_k21_each_refusal_its_own_holds
