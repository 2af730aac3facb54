import PyProof.Rows.All
import Wide.All
import OpenK.AllK
import Wide.FinOn
import HandS.ForMost
import HandS.Exc
import HandS.TryOnly
import HandS.ExcOwn
import HandS.WordsExc
import HandS.ExcIs
import HandS.IsInst
import HandS.Conv
import HandS.SortInts
import HandS.SortRule
import HandS.Deep
import HandS.Steps
import HandS.TupAny
import HandS.More
import HandS.Rev
import HandS.TupSets
import KE.RegKIsAll
import HandS.RevRange
import PyProof.CollectIter
import PyProof.WalksMore
import HandS.SetFor
import HandS.Strs
import KE.GoesComp
import KE.GoesRaise
import KE.KAsSuite
import HandS.Walk
import HandS.Codes
import PySem.Challenge.RW_shiftroom_k07_written
set_option Elab.async false
set_option linter.all false
set_option maxRecDepth 100000
set_option maxHeartbeats 4000000
/-! Shiftroom: the rules that every def's proof here stands on. -/
namespace Shf
open PySem L2

/-- the addresses of the classes -/
structure Gd where
  w : World
  RoomError : Addr := 0
  NoSize : Addr := 0
  NoSeating : Addr := 0
  OtherSize : Addr := 0
  NoSeat : Addr := 0
  NoNumber : Addr := 0
  TooMany : Addr := 0
  Unreached : Addr := 0
  TooWide : Addr := 0
  NotRead : Addr := 0
  Room : Addr := 0
  Book : Addr := 0

/-! ### what an exception may be wished -/
abbrev wE (E : XK) : WX := fun cls d _ H => E cls d H
def tRaiseW (W : WX) (C : Addr) : TS := fun _ σ H => W (.ref C) none σ H
theorem passE0 {X : Cx} (σ : L2.St) : PassesAt (L2.CX X.prog X.w) X σ E0 := fun pins H s e s' I c => passL pins σ H s e s' I c
theorem cx_none {P : Program} {w : World} {H : Hp} {s : Shared} {e : Value} {s' : Shared} (z : L2.CX P w [] H s (fun _ _ _ => False) e s') : False := by
  obtain ⟨_, _, _, _, _, _, _, _, _, _, _, _, z⟩ := z
  exact z

/-! ### a def, a method, a class as a callee -/
structure Cal (P : Program) (w : World) (K : PySem.W.Frag) (mg : Str → Option Value) (base : Heap) (k : Nat) (x : Str) (ps : List Str) (sp : Sp) : Prop where mk' ::
  ex : ∃ f fd, mg x = some (.ref f) ∧ PySem.W.keepIn K (.ref f) = true ∧ Binds K fd ps [] ∧ FnOk P w K mg base (L2.CX P w) k f fd ps sp
theorem Cal.mk {P : Program} {w : World} {K : PySem.W.Frag} {mg : Str → Option Value} {base : Heap} {k : Nat} {x : Str} {ps : List Str} {sp : Sp} (f : Addr) (fd : FuncData) (a : mg x = some (.ref f)) (b : PySem.W.keepIn K (.ref f) = true) (c : Binds K fd ps []) (d : FnOk P w K mg base (L2.CX P w) k f fd ps sp) : Cal P w K mg base k x ps sp := ⟨⟨f, fd, a, b, c, d⟩⟩
structure CalM (P : Program) (w : World) (K : PySem.W.Frag) (mg : Str → Option Value) (base : Heap) (k : Nat) (C : Addr) (m : Str) (ps : List Str) (sp : Sp) : Prop where mk' ::
  ex : ∃ f fd, Meth K C m f ∧ Binds K fd ps [] ∧ FnOk P w K mg base (L2.CX P w) k f fd ps sp
theorem CalM.mk {P : Program} {w : World} {K : PySem.W.Frag} {mg : Str → Option Value} {base : Heap} {k : Nat} {C : Addr} {m : Str} {ps : List Str} {sp : Sp} (f : Addr) (fd : FuncData) (a : Meth K C m f) (c : Binds K fd ps []) (d : FnOk P w K mg base (L2.CX P w) k f fd ps sp) : CalM P w K mg base k C m ps sp := ⟨⟨f, fd, a, c, d⟩⟩
structure CalI (P : Program) (w : World) (K : PySem.W.Frag) (mg : Str → Option Value) (base : Heap) (k : Nat) (C : Addr) (ps : List Str) (sp : Sp) : Prop where mk' ::
  ex : ∃ f fd, Mk K C f ∧ Binds K fd ps [] ∧ FnOk P w K mg base (L2.CX P w) k f fd ps sp
theorem CalI.mk {P : Program} {w : World} {K : PySem.W.Frag} {mg : Str → Option Value} {base : Heap} {k : Nat} {C : Addr} {ps : List Str} {sp : Sp} (f : Addr) (fd : FuncData) (a : Mk K C f) (c : Binds K fd ps []) (d : FnOk P w K mg base (L2.CX P w) k f fd ps sp) : CalI P w K mg base k C ps sp := ⟨⟨f, fd, a, c, d⟩⟩

section
variable {X : Cx} {k : Nat} {x m : Str} {C : Addr} {ps : List Str} {sp : Sp} {E : L2.St → XK} {e o : Expr} {es : List Expr} {t : TA} {ta : TE} {p pos apos : Pos}
theorem pe_cal (c : Cal X.prog X.w X.K X.mg X.base k x ps sp) (hr : Room k X.A) (hg : Gl X x) (hx : ∀ σ, PassesAt (L2.CX X.prog X.w) X σ (E σ)) (ha : PA X (e :: es) t) (hdb : (x == ("__debug__" : Str)) = false := by decide)
    (he : starEach (e :: es) X.env = (false, eval e X.env) :: starEach es X.env := by rfl) (hpl : (backTo pos (starEach es X.env)).any (·.1) = false := by rfl) : PE X (.Call (.Name x p) (e :: es) [] pos) (tCallS sp E t) := by
  obtain ⟨f, fd, a, b, c, d⟩ := c.ex
  exact pe_callS d hr hg a b c hx ha hdb he hpl
theorem pe_cal0 (c : Cal X.prog X.w X.K X.mg X.base k x ps sp) (hr : Room k X.A) (hg : Gl X x) (hx : ∀ σ, PassesAt (L2.CX X.prog X.w) X σ (E σ)) (hdb : (x == ("__debug__" : Str)) = false := by decide) : PE X (.Call (.Name x p) [] [] pos) (tCallS sp E tNil) := by
  obtain ⟨f, fd, a, b, c, d⟩ := c.ex
  refine ⟨fun pins s σ H Q I h => ?_⟩
  refine wpAny_Call_Name_kw (ld_glob I hg a ?_ hdb)
  exact PySem.W.callWith_K0 I.kIn b (run_fnS (us := []) (vs := []) d hr c (hx σ) I .nil h)
def tMethS (C : Addr) (m : Str) (sp : Sp) (E : L2.St → XK) (ta : TE) (t : TA) : TE := fun σ H Q => ta σ H fun x H1 => ∃ a dx fs, x = .ref a ∧ H1 a = some (.ins C dx fs) ∧ fs.lookup m = none ∧
  t σ H1 fun vs H2 => sp (x :: vs) H2 Q (E σ)
theorem pe_calM {pl : Sem Bool} (he : PE X o ta) (c : Cls X.K C) (cm : CalM X.prog X.w X.K X.mg X.base k C m ps sp) (hr : Room k X.A) (hx : ∀ σ, PassesAt (L2.CX X.prog X.w) X σ (E σ)) (ha : PA X (e :: es) t)
    (hst : starEach (e :: es) X.env = (false, eval e X.env) :: starEach es X.env := by rfl) (hpl : (backTo pos (starEach es X.env)).any (·.1) = false := by rfl)
    (ht : eval (.Call (.Attribute o m apos) (e :: es) [] pos) X.env = (do
      let ov ← eval o X.env
      standAt apos.atName
      let (f, first) ← holding [ov] (getMethod ov m pl)
      callWith pos f first (backTo pos (starEach (e :: es) X.env)) (backToKw pos (keywordEach [] X.env))) := by rfl) : PE X (.Call (.Attribute o m apos) (e :: es) [] pos) (tMethS C m sp E ta t) := by
  obtain ⟨f, fd, hm, hb, d⟩ := cm.ex
  refine ⟨fun pins s σ H Q I h => ?_⟩
  refine PySem.W.methodCall_KW (pl := pl) (thn (he.run pins s σ H _ I h) fun u s1 ⟨x, H1, I1, rx, a, dx, fs, ex, ea, l, q⟩ => ?_) ht
  subst ex
  obtain rfl : u = Value.ref a := rx
  refine getmeth_ok I1 ea c hm l ?_
  refine PySem.W.callWith_K (first := [.ref a]) (h₀ := X.base) I.ok.mod.kin hm.kp (thn (ha.run pos pins s1 σ H1 _ I1 q) fun us s2 ⟨vs, H2, I2, r, q2⟩ => ⟨I2.kIn, ?_⟩) hst hpl
  exact run_fnS (us := .ref a :: us) (vs := .ref a :: vs) d hr hb (hx σ) I2 (.cons rfl r) q2
theorem pe_calM0 {pl : Sem Bool} (he : PE X o ta) (c : Cls X.K C) (cm : CalM X.prog X.w X.K X.mg X.base k C m ps sp) (hr : Room k X.A) (hx : ∀ σ, PassesAt (L2.CX X.prog X.w) X σ (E σ))
    (ht : eval (.Call (.Attribute o m apos) [] [] pos) X.env = (do
      let ov ← eval o X.env
      standAt apos.atName
      let (f, first) ← holding [ov] (getMethod ov m pl)
      callWith pos f first (backTo pos (starEach [] X.env)) (backToKw pos (keywordEach [] X.env))) := by rfl) : PE X (.Call (.Attribute o m apos) [] [] pos) (tMethS C m sp E ta tNil) := by
  obtain ⟨f, fd, hm, hb, d⟩ := cm.ex
  refine ⟨fun pins s σ H Q I h => ?_⟩
  refine PySem.W.methodCall_KW (pl := pl) (thn (he.run pins s σ H _ I h) fun u s1 ⟨x, H1, I1, rx, a, dx, fs, ex, ea, l, q⟩ => ?_) ht
  subst ex
  obtain rfl : u = Value.ref a := rx
  refine getmeth_ok I1 ea c hm l ?_
  exact PySem.W.callWith_K0 (first := [.ref a]) I1.kIn hm.kp (run_fnS (us := [.ref a]) (vs := [.ref a]) d hr hb (hx σ) I1 (.cons rfl .nil) q)
/-- C(..): a new instance and its dict, then __init__, which may raise what is wished -/
def tMakeS (C : Addr) (sp : Sp) (E : L2.St → XK) (t : TA) : TE := fun σ H Q => t σ H fun vs H1 => ∀ x dx, H1 x = none → H1 dx = none → dx ≠ x →
  sp (.ref x :: vs) (upd (upd H1 dx (.own x)) x (.ins C dx [])) (fun v H2 => v = .non ∧ Q (.ref x) H2) (E σ)
theorem run_makeS {pins : List (Addr × Obj)} {σ : L2.St} {H : Hp} {s : Shared} {Q : VK} {us : List Value} {vs : List V} {f : Addr} {fd : FuncData} {E : L2.St → XK} (M : Mk X.K C f) (F : FnOk X.prog X.w X.K X.mg X.base (L2.CX X.prog X.w) k f fd ps sp) (hr : Room (k + 1) X.A) (hb : Binds X.K fd ps [])
    (hx : PassesAt (L2.CX X.prog X.w) X σ (E σ)) (I : Inv X pins σ H s) (r : Vals vs us)
    (h : ∀ x dx, H x = none → H dx = none → dx ≠ x → sp (.ref x :: vs) (upd (upd H dx (.own x)) x (.ins C dx [])) (fun v H2 => v = .non ∧ Q (.ref x) H2) (E σ)) :
    wpAny (model X.prog X.w) X.A (call (.ref C) us) (EP X pins σ Q) X.xe s := by
  have hq := h (s.heap.objs.size + 1) s.heap.objs.size (I.hok.fresh (Nat.le_succ _)) (I.hok.fresh (Nat.le_refl _)) (Nat.ne_of_lt (Nat.lt_succ_self _))
  have I2 := Inv.made (C := C) I
  have r2 : Vals (V.ref (s.heap.objs.size + 1) :: vs) (Value.ref (s.heap.objs.size + 1) :: us) := .cons rfl r
  have hl : (Value.ref (s.heap.objs.size + 1) :: us).length = ps.length := by
    have e := r2.length
    rw [F.len _ _ _ _ hq] at e
    exact e.symm
  have bd := hb (s := _) (us := Value.ref (s.heap.objs.size + 1) :: us) I2.kIn (by rw [List.append_nil]; exact hl)
  rw [List.append_nil] at bd
  refine wpAny_call (make_map (f := f) I.kIn M.makes M.init (beq_iff_eq.mp M.fn) (codeAny_mono (F.run _ X.stack _ _ ⟨Value.ref (s.heap.objs.size + 1) :: us, []⟩ (Value.ref (s.heap.objs.size + 1) :: us) _ _ (E σ) (hr.make C us [])
    (I2.env0.make C us []) bd r2 hq) fun r s' hq' => ?_))
  cases r with
  | error e => exact hx pins _ _ e s' I2 hq'
  | ok fl =>
    cases fl with
    | ret u =>
      obtain ⟨v, H', I3, rv, ev, q3⟩ := I2.after hq'
      subst ev
      exact ⟨rv, ⟨V.ref (s.heap.objs.size + 1), H', I3, rfl, q3⟩⟩
    | next => exact False.elim hq'
    | brk => exact False.elim hq'
    | cont => exact False.elim hq'
theorem pe_mk (c : CalI X.prog X.w X.K X.mg X.base k C ps sp) (hr : Room (k + 1) X.A) (hg : Gl X x) (hm : X.mg x = some (.ref C)) (hx : ∀ σ, PassesAt (L2.CX X.prog X.w) X σ (E σ)) (ha : PA X (e :: es) t) (hdb : (x == ("__debug__" : Str)) = false := by decide)
    (he : starEach (e :: es) X.env = (false, eval e X.env) :: starEach es X.env := by rfl) (hpl : (backTo pos (starEach es X.env)).any (·.1) = false := by rfl) : PE X (.Call (.Name x p) (e :: es) [] pos) (tMakeS C sp E t) := by
  obtain ⟨f, fd, M, b, d⟩ := c.ex
  refine ⟨fun pins s σ H Q I h => ?_⟩
  refine wpAny_Call_Name_kw (ld_glob I hg hm ?_ hdb)
  refine PySem.W.callWith_K (h₀ := X.base) I.ok.mod.kin M.kp (thn (ha.run pos pins s σ H _ I h) fun us s1 ⟨vs, H1, I1, r, q⟩ => ⟨I1.kIn, ?_⟩) he hpl
  exact run_makeS M d hr b (hx σ) I1 r q
end
/-- what the fields of a room, a book want -/
structure RmC (K : PySem.W.Frag) (g : Gd) : Prop where
  cl : Cls K g.Room
  size : NoAttr K g.Room "size"
  told : NoAttr K g.Room "told"
  book : NoAttr K g.Room "book"
structure BkC (K : PySem.W.Frag) (g : Gd) : Prop where
  cl : Cls K g.Book
  size : NoAttr K g.Book "size"
  steps : NoAttr K g.Book "steps"
  made : NoAttr K g.Book "made"
  rows : NoAttr K g.Book "rows"
  kept : NoAttr K g.Book "kept"

/-! ### operators by short names -/
def rAddI : R2 := rI0 fun i j => V.int (i + j)
def rSubI : R2 := rI0 fun i j => V.int (i - j)
def rMulI : R2 := rI CMul fun i j => V.int (i * j)
/-- // by any divisor of up to 9000 bits -/
def CDivW (i j : Int) : Prop := j ≠ 0 ∧ j.natAbs.log2 < 9000
theorem op_fdivW {X : Cx} : OpR X (binaryOp .FloorDiv) (rI CDivW fun i j => .int (i.fdiv j)) := opI fun _ _ _ _ _ _ _ hc q => PyProof.Rows.floordiv_int hc.1 q (.inl (PyProof.noPylong_of_log2 hc.2))
def rDivI : R2 := rI CDivW fun i j => V.int (i.fdiv j)
def rModI : R2 := rI (fun _ j => j ≠ 0) fun i j => V.int (i.fmod j)
def rPowI : R2 := rI CPow fun i j => V.int (i ^ j.toNat)
def rLtI : R2 := rI0 fun i j => V.bl (decide (i < j))
def rLeI : R2 := rI0 fun i j => V.bl (decide (i ≤ j))
def rGtI : R2 := rI0 fun i j => V.bl (decide (j < i))
def rGeI : R2 := rI0 fun i j => V.bl (decide (j ≤ i))
def rAddS : R2 := fun x y H Q => ∃ i j, x = V.str i ∧ y = V.str j ∧ i.length + j.length ≤ sizeLine ∧ Q (.str (i ++ j)) H
def rLenQ (K : PySem.W.Frag) : List V → Hp → VK → Prop := fun xs H Q => ∃ p ys, xs = [.ref p] ∧ (SqL K H p ys ∨ SqT K H p ys) ∧ Q (.int ys.length) H
def rLenDk : List V → Hp → VK → Prop := fun xs H Q => ∃ a kvs, xs = [V.ref a] ∧ H a = some (.dK kvs) ∧ Q (.int kvs.length) H
def rLenSt : List V → Hp → VK → Prop := fun xs H Q => ∃ z, xs = [.str z] ∧ z.length ≤ sizeLine ∧ Q (.int z.length) H
def rListOf (K : PySem.W.Frag) : List V → Hp → VK → Prop := fun xs H Q => ∃ p ys, xs = [.ref p] ∧ (SqL K H p ys ∨ SqT K H p ys) ∧ ∀ l, H l = none → Q (.ref l) (upd H l (.lst ys))
def rTupOf (K : PySem.W.Frag) : List V → Hp → VK → Prop := fun xs H Q => ∃ p ys, xs = [.ref p] ∧ ((SqL K H p ys ∧ ∀ l, H l = none → Q (.ref l) (upd H l (.tup ys))) ∨ (SqT K H p ys ∧ Q (.ref p) H))
def rStrI : List V → Hp → VK → Prop := fun xs H Q => ∃ i, xs = [.int i] ∧ i.natAbs.log2 < 1920 ∧ Q (.str (toString i)) H
def rIntS : List V → Hp → VK → Prop := fun xs H Q => ∃ a n, xs = [.str a] ∧ PySem.intText? a = some n ∧ a.length ≤ 640 ∧ Q (.int n) H
def rMax2 : List V → Hp → VK → Prop := fun xs H Q => ∃ i j, xs = [.int i, .int j] ∧ Q (.int (if j > i then j else i)) H
def rMin2 : List V → Hp → VK → Prop := fun xs H Q => ∃ i j, xs = [.int i, .int j] ∧ Q (.int (if j < i then j else i)) H
def rInsert : V → List V → Hp → VK → Prop := fun x vs H Q => ∃ (l : Addr) (xs : List V) (i : Int) (y : V), x = .ref l ∧ vs = [.int i, y] ∧ H l = some (.lst xs) ∧ xs.length < sizeLine ∧ 0 ≤ i ∧ i < 2 ^ 63 ∧
    Q .non (upd H l (.lst (xs.take i.toNat ++ [y] ++ xs.drop i.toNat)))
def rJoin (K : PySem.W.Frag) : V → List V → Hp → VK → Prop := fun x xs H Q => ∃ a p, ∃ ys : List Str, x = .str a ∧ xs = [.ref p] ∧ (SqL K H p (ys.map V.str) ∨ SqT K H p (ys.map V.str)) ∧
      (ys.map (·.length)).sum + ys.length * a.length ≤ 16777216 ∧ Q (.str (Txt.join a ys)) H
def rSplit : V → List V → Hp → VK → Prop := fun x xs H Q => ∃ a b, x = .str a ∧ xs = [.str b] ∧ (b.length == 0) = false ∧ a.length + 2 ≤ sizeLine ∧ rNewStrs (Txt.split a b) H Q
theorem hu65 {k : Nat} {A : Around} (hr : Room k A) : A.units + 65 < cLine := by have := hr.un; omega

section
variable {X : Cx}
theorem pe_globI {x : Str} {i : Int} {pos : Pos} (hm : ∃ t, X.mg x = some (.int i t)) (hg : Gl X x := by rfl) (hd : (x == ("__debug__" : Str)) = false := by decide) : PE X (.Name x pos) (tC (.int i)) := by
  obtain ⟨t, h⟩ := hm
  exact pe_glob hg h ⟨_, rfl⟩ hd
theorem pe_globS {x : Str} {i : Str} {pos : Pos} (hm : ∃ t, X.mg x = some (.str i t)) (hg : Gl X x := by rfl) (hd : (x == ("__debug__" : Str)) = false := by decide) : PE X (.Name x pos) (tC (.str i)) := by
  obtain ⟨t, h⟩ := hm
  exact pe_glob hg h ⟨_, rfl⟩ hd
end

/-! ### own exceptions -/
structure ExB (K : PySem.W.Frag) (mg : Str → Option Value) (x : Str) (D : Addr) : Prop where
  gC : mg x = some (.ref D)
  ex : PySem.W.excIn K D [.type "ValueError", .type "Exception", .type "BaseException", .type "object"] "ValueError.__new__" = true
  kC : PySem.W.keepIn K (.ref D) = true
  bC : PySem.W.subIn K (.ref D) (.type "BaseException") = some true
  tC : PySem.W.typeIn K (.ref D) = some (.type "type")
/-- isinstance(e, c) in an except suite that holds an exception of class cls -/
def rIsE2 (K : PySem.W.Frag) (cls : Value) (d : Option Addr) (a : Addr) : List V → Hp → VK → Prop := fun xs H Q => ∃ D, cls = .ref D ∧ d = none ∧ ExcC K D ∧ rIsE K D a xs H Q
theorem call_isE2 {X : Cx} {a : Addr} {oe : Obj} {cls : Value} {d : Option Addr} {pn : List (Addr × Obj)} (hz : Zc cls d oe) (hf : ∃ vs, oe.data = .fields vs) : CallR (X.suite a ((a, oe) :: pn)) (.builtin "isinstance") (rIsE2 X.K cls d a) := by
  intro pins s σ H xs us Q I r h
  obtain ⟨D, rfl, rfl, C, h⟩ := h
  exact call_isE C hz hf pins s σ H xs us Q I r h

/-! ### data -/
/-- numbers as values -/
abbrev vI (a : List Int) : List V := a.map V.int
abbrev vN (a : List Nat) : List V := a.map fun (n : Nat) => V.int (n : Int)
/-- a new tuple of numbers is handed back, all else as it was -/
def NewT (H : Hp) (a : List Nat) (Q : VK) : Prop := ∀ (r : Addr) (H' : Hp), Same H H' → H r = none → H' r = some (.tup (vN a)) → Q (.ref r) H'
theorem vN_at {a : List Nat} {i n : Nat} (h : a[i]? = some n) : (vN a)[i]? = some (V.int (n : Int)) := by
  show (a.map _)[i]? = _
  rw [List.getElem?_map, h] <;> rfl
theorem vI_at {a : List Int} {i : Nat} {n : Int} (h : a[i]? = some n) : (vI a)[i]? = some (V.int n) := by
  show (a.map _)[i]? = _
  rw [List.getElem?_map, h] <;> rfl
theorem getD_at {a : List Nat} {i : Nat} (h : i < a.length) : a[i]? = some (a.getD i 0) := by
  rw [List.getD_eq_getElem?_getD, List.getElem?_eq_getElem h] <;> rfl
theorem at_vN {a : List Nat} {z : Int} {i : Nat} (e : z = (i : Int)) (h : i < a.length) : atI (vN a) z = some (V.int ((a.getD i 0 : Nat) : Int)) := at_of e (vN_at (getD_at h))
theorem vN_eq (a : List Nat) : vN a = vI (a.map fun (n : Nat) => (n : Int)) := by
  show a.map _ = (a.map _).map _
  rw [List.map_map] <;> rfl
theorem vN_len (a : List Nat) : (vN a).length = a.length := List.length_map ..
theorem vI_len (a : List Int) : (vI a).length = a.length := List.length_map ..
theorem _root_.L2.Same.up {H H' : Hp} {p : Addr} {o : HO} (s : Same H H') (h : H p = none) : Same H (upd H' p o) := fun b u e => by
  rw [upd_ne (ne_of_none e h)]
  exact s b u e
theorem _root_.L2.Same.new {H H' : Hp} {p : Addr} {o : HO} (s : Same H H') (h : H' p = none) : Same H (upd H' p o) := s.up (s.free h)
theorem _root_.L2.Same.tup {K : PySem.W.Frag} {H H' : Hp} {a : Addr} {xs : List V} (e : Same H H') (h : SqT K H a xs) : SqT K H' a xs := by
  rcases h with (h | ⟨o, h⟩) | h
  · exact .inl (.inl (e _ _ h))
  · exact .inl (.inr ⟨o, e _ _ h⟩)
  · exact .inr h
theorem sqT {K : PySem.W.Frag} {H : Hp} {a : Addr} {xs : List V} (h : H a = some (.tup xs)) : SqT K H a xs := .inl (.inl h)
theorem sqL {K : PySem.W.Frag} {H : Hp} {a : Addr} {xs : List V} (h : H a = some (.lst xs)) : SqL K H a xs := .inl (.inl h)
theorem zl {n : Nat} (h : n ≤ 100000) : n ≤ sizeLine := Nat.le_trans h (by decide)
theorem zlt {n : Nat} (h : n < 100000) : n < sizeLine := Nat.lt_of_lt_of_le h (by decide)
theorem if_t {c : Bool} {A B : Prop} (hc : c = true) (h : A) : if c = true then A else B := by rw [if_pos hc]; exact h
theorem if_f {c : Bool} {A B : Prop} (hc : c = false) (h : B) : if c = true then A else B := by rw [hc, if_neg Bool.false_ne_true]; exact h
theorem if_d {c : Prop} [Decidable c] {A B : Prop} (h1 : c → A) (h2 : ¬ c → B) : if decide c = true then A else B := by
  by_cases h : c
  · exact if_t (decide_eq_true h) (h1 h)
  · exact if_f (decide_eq_false h) (h2 h)
theorem if_b {c : Bool} {A B : Prop} (h1 : c = true → A) (h2 : c = false → B) : if c = true then A else B := by
  cases c with
  | true => exact if_t rfl (h1 rfl)
  | false => exact if_f rfl (h2 rfl)
theorem fmod_pos {a b : Int} (h : 0 < b) : a.fmod b = a % b := Int.fmod_eq_emod_of_nonneg a (Int.le_of_lt h)
theorem fdiv_pos {a b : Int} (h : 0 < b) : a.fdiv b = a / b := Int.fdiv_eq_ediv_of_nonneg a (Int.le_of_lt h)
end Shf

/-! numbers, lists, permutations; steps of the reading by names -/
namespace Shf
open PySem L2
/-! ### steps: one a combinator -/
section
variable {K : PySem.W.Frag} {σ : L2.St} {H : Hp} {Q : VK} {QA : List V → Hp → Prop} {QB : Bool → Hp → Prop} {D : Ends} {te tf : TE} {ta : TA} {tt tu : TT} {t u : TS} {g : TG}
theorem w_seq (h : t { D with nx := u D } σ H) : tSeq t u D σ H := h
theorem w_asg {i : Nat} (h : te σ H fun x H1 => D.nx (σ.set i (some x)) H1) : tAsg te (gName i) D σ H := h
theorem w_asgS {to ti : TE} {r : TSet} (h : te σ H fun x H1 => to σ H1 fun o H1 => ti σ H1 fun i H2 => r o i x H2 fun H3 => D.nx σ H3) : tAsg te (gSub to ti r) D σ H := h
theorem w_drop (h : te σ H fun _ H1 => D.nx σ H1) : tDrop te D σ H := h
theorem w_ret (h : te σ H D.rt) : tRet te D σ H := h
theorem w_next (h : D.nx σ H) : tNext D σ H := h
theorem w_if (h : tt σ H fun b H1 => if b = true then t D σ H1 else u D σ H1) : tIfS tt t u D σ H := h
theorem w_var {i : Nat} {v : V} (e : σ[i]? = some (some v)) (q : Q v H) : tVar i σ H Q := ⟨v, e, q⟩
theorem w_c {v : V} (q : Q v H) : tC v σ H Q := q
theorem w_op {r : R2} (h : te σ H fun x H1 => tf σ H1 fun y H2 => r x y H2 Q) : tOp r te tf σ H Q := h
theorem w_un {r : V → Hp → VK → Prop} (h : te σ H fun x H1 => r x H1 Q) : tUn r te σ H Q := h
theorem w_nil (h : QA [] H) : tNil σ H QA := h
theorem w_cons (h : te σ H fun x H1 => ta σ H1 fun xs H2 => QA (x :: xs) H2) : tCons te ta σ H QA := h
theorem w_cb {r : List V → Hp → VK → Prop} (h : ta σ H fun vs H1 => r vs H1 Q) : tCB r ta σ H Q := h
theorem w_call {sp : Sp} {E : L2.St → XK} (h : ta σ H fun vs H1 => sp vs H1 Q (E σ)) : tCallS sp E ta σ H Q := h
theorem w_test (h : te σ H fun x H' => ∃ k, x = .bl k ∧ QB k H') : tTest te σ H QB := h
theorem w_b (h : te σ H fun x H' => ∃ k, x = .bl k ∧ QB k H') : tB te σ H QB := h
theorem w_bex {b : Bool} {P : Bool → Prop} (h : P b) : ∃ k, V.bl b = .bl k ∧ P k := ⟨b, rfl, h⟩
theorem w_and (h : tt σ H fun c H1 => if c = true then tu σ H1 QB else QB false H1) : tAnd tt tu σ H QB := h
theorem w_or (h : tt σ H fun c H1 => if c = true then QB true H1 else tu σ H1 QB) : tOr tt tu σ H QB := h
theorem w_orP {b c : Bool} (ht : ∀ R : Bool → Hp → Prop, R b H → tt σ H R) (hu : ∀ R : Bool → Hp → Prop, R c H → tu σ H R) (q : QB (b || c) H) : tOr tt tu σ H QB := by
  refine ht _ ?_
  cases b with
  | true => exact q
  | false => exact hu _ q
theorem w_andP {b c : Bool} (ht : ∀ R : Bool → Hp → Prop, R b H → tt σ H R) (hu : ∀ R : Bool → Hp → Prop, R c H → tu σ H R) (q : QB (b && c) H) : tAnd tt tu σ H QB := by
  refine ht _ ?_
  cases b with
  | true => exact hu _ q
  | false => exact q
theorem w_not (h : tt σ H fun c H1 => QB (!c) H1) : tNot tt σ H QB := h
theorem w_andV (h : te σ H fun x H1 => ∃ c, x = .bl c ∧ if c = true then tf σ H1 Q else Q (.bl false) H1) : tAndV te tf σ H Q := h
theorem w_orV (h : te σ H fun x H1 => ∃ c, x = .bl c ∧ if c = true then Q (.bl true) H1 else tf σ H1 Q) : tOrV te tf σ H Q := h
theorem w_notV (h : te σ H fun x H1 => ∃ c, x = .bl c ∧ Q (.bl (!c)) H1) : tNotV te σ H Q := h
theorem w_ife (h : tt σ H fun c H1 => if c = true then te σ H1 Q else tf σ H1 Q) : tIf tt te tf σ H Q := h
theorem w_add {i j : Int} (q : Q (.int (i + j)) H) : rAddI (.int i) (.int j) H Q := ⟨i, j, rfl, rfl, q⟩
theorem w_sub {i j : Int} (q : Q (.int (i - j)) H) : rSubI (.int i) (.int j) H Q := ⟨i, j, rfl, rfl, q⟩
theorem w_neg {i : Int} (q : Q (.int (-i)) H) : rU (fun i => V.int (-i)) (.int i) H Q := ⟨i, rfl, q⟩
theorem w_lt {i j : Int} (q : Q (.bl (decide (i < j))) H) : rLtI (.int i) (.int j) H Q := ⟨i, j, rfl, rfl, q⟩
theorem w_le {i j : Int} (q : Q (.bl (decide (i ≤ j))) H) : rLeI (.int i) (.int j) H Q := ⟨i, j, rfl, rfl, q⟩
theorem w_gt {i j : Int} (q : Q (.bl (decide (j < i))) H) : rGtI (.int i) (.int j) H Q := ⟨i, j, rfl, rfl, q⟩
theorem w_ge {i j : Int} (q : Q (.bl (decide (j ≤ i))) H) : rGeI (.int i) (.int j) H Q := ⟨i, j, rfl, rfl, q⟩
theorem w_tup (h : ta σ H fun xs H1 => xs.length ≤ sizeLine ∧ ∀ p, H1 p = none → Q (.ref p) (upd H1 p (.tup xs))) : tTup ta σ H Q := h
theorem w_lst (h : ta σ H fun xs H1 => xs.length ≤ sizeLine ∧ ∀ p, H1 p = none → Q (.ref p) (upd H1 p (.lst xs))) : tLst ta σ H Q := h
theorem w_lrg {tr : L2.St → Hp → (Int → Int → Hp → Prop) → Prop} (h : tr σ H fun a b H1 => RgOk a b ∧ ∀ q, H1 q = none → Q (.ref q) (upd H1 q (.lst (rgV a b)))) : tLstRg tr σ H Q := h
theorem w_trg {tr : L2.St → Hp → (Int → Int → Hp → Prop) → Prop} (h : tr σ H fun a b H1 => RgOk a b ∧ ∀ q, H1 q = none → Q (.ref q) (upd H1 q (.tup (rgV a b)))) : tTupRg tr σ H Q := h
theorem w_rg1 {QR : Int → Int → Hp → Prop} (h : te σ H fun x H1 => ∃ n, x = .int n ∧ QR 0 n H1) : tRg1 te σ H QR := h
theorem w_iex {i : Int} {P : Int → Prop} (h : P i) : ∃ n, V.int i = .int n ∧ P n := ⟨i, rfl, h⟩
theorem w_yes (q : QB true H) : tYes σ H QB := q
theorem w_bm {T : String} {r : V → List V → Hp → VK → Prop} (h : te σ H fun x H1 => tyV K T x H1 ∧ ta σ H1 fun xs H2 => r x xs H2 Q) : tBM K T r te ta σ H Q := h
theorem w_bm0 {T : String} {r : V → List V → Hp → VK → Prop} (h : te σ H fun x H1 => tyV K T x H1 ∧ r x [] H1 Q) : tBM0 K T r te σ H Q := h
def rFld (K : PySem.W.Frag) (f : Str) (x : V) (H : Hp) (Q : VK) : Prop := ∃ a C dx fs v, x = .ref a ∧ H a = some (.ins C dx fs) ∧ Cls K C ∧ NoAttr K C f ∧ fs.lookup f = some v ∧ Q v H
theorem w_fld {f : Str} (h : te σ H fun x H1 => rFld K f x H1 Q) : tFld K te f σ H Q := h
theorem w_sfld {f : Str} (h : tf σ H fun y H1 => te σ H1 fun x H2 => ∃ a C dx fs, x = .ref a ∧ H2 a = some (.ins C dx fs) ∧ Cls K C ∧ NoAttr K C f ∧ fs.length < 1000 ∧ D.nx σ (upd H2 a (.ins C dx (putF f y fs)))) : sFld K te tf f D σ H := h
def rDGet (x y : V) (H : Hp) (Q : VK) : Prop := ∃ a v, x = .ref a ∧ DGet H a y (some v) ∧ Q v H
theorem w_dget (h : te σ H fun x H1 => tf σ H1 fun y H2 => rDGet x y H2 Q) : tDGet te tf σ H Q := h
theorem w_dget1 (h : te σ H fun x H1 => ∃ a, x = .ref a ∧ IsD H1 a ∧ tf σ H1 fun y H2 => ∃ o, DGet H2 a y o ∧ Q (o.getD .non) H2) : tDGet1 te tf σ H Q := h
theorem w_meth {C : Addr} {m : Str} {sp : Sp} {E : L2.St → XK} (h : te σ H fun x H1 => ∃ a dx fs, x = .ref a ∧ H1 a = some (.ins C dx fs) ∧ fs.lookup m = none ∧ ta σ H1 fun vs H2 => sp (x :: vs) H2 Q (E σ)) : tMethS C m sp E te ta σ H Q := h
def rMake (C : Addr) (sp : Sp) (E : XK) (vs : List V) (H1 : Hp) (Q : VK) : Prop := ∀ x dx, H1 x = none → H1 dx = none → dx ≠ x → sp (.ref x :: vs) (upd (upd H1 dx (.own x)) x (.ins C dx [])) (fun v H2 => v = .non ∧ Q (.ref x) H2) E
theorem w_make {C : Addr} {sp : Sp} {E : L2.St → XK} (h : ta σ H fun vs H1 => rMake C sp (E σ) vs H1 Q) : tMakeS C sp E ta σ H Q := h
theorem w_raise {W : WX} {C : Addr} (h : W (.ref C) none σ H) : tRaiseW W C D σ H := h
end
/-- ways that meet: what holds where they meet -/
theorem w_join {t : TS} {D : Ends} {σ : L2.St} {H : Hp} (M : L2.St → Hp → Prop) (key : ∀ σ' H', M σ' H' → D.nx σ' H') (h : (∀ σ' H', M σ' H' → D.nx σ' H') → t D σ H) : t D σ H := h key
/-- for .. in range(n), behind n's reading -/
theorem w_for1 {σ : L2.St} {H : Hp} {D : Ends} {i n : Nat} {t : TS} (hn : n ≤ 1000000) (Pv : Nat → L2.St → Hp → Prop) (h0 : Pv 0 σ H)
    (hs : ∀ k σ H, k < n → Pv k σ H → t { D with nx := Pv (k + 1), ct := Pv (k + 1), bk := D.nx } (σ.set i (some (.int (k : Int)))) H) (hd : ∀ σ H, Pv n σ H → D.nx σ H) :
    ∃ j : Int, [V.int (n : Int)] = [.int j] ∧ -(2 ^ 62) ≤ j ∧ j < 2 ^ 62 ∧ ∃ W : Nat → Nat → L2.St → Hp → Prop, (∃ m, W 0 m σ H) ∧ ∀ i' m σ H, W i' m σ H →
      ((Itr 0 j.toNat).stop i' H ∧ D.nx σ H) ∨ ((Itr 0 j.toNat).go i' H ∧ ∃ N : L2.St → Hp → Prop, (∀ σ' H', N σ' H' → ∃ m', m' < m ∧ W (i' + 1) m' σ' H') ∧ ∀ x H', (Itr 0 j.toNat).yld i' H x H' → gName i x σ H' fun σ2 H2 => t { D with nx := N, ct := N, bk := D.nx } σ2 H2) :=
  ⟨_, rfl, by omega, by omega, for_range (n := n) Pv h0 (fun k σ H hk p => by
    show t _ (σ.set i (some (V.int (0 + (k : Int))))) H
    rw [Int.zero_add]
    exact hs k σ H hk p) hd⟩
theorem w_for {σ : L2.St} {H : Hp} {D : Ends} {wi : TI} {g : TG} {tb : TS} (h : wi σ H fun J H1 => ∃ W : Nat → Nat → L2.St → Hp → Prop, (∃ m, W 0 m σ H1) ∧ ∀ i m σ H, W i m σ H →
  (J.stop i H ∧ D.nx σ H) ∨ (J.go i H ∧ ∃ N : L2.St → Hp → Prop, (∀ σ' H', N σ' H' → ∃ m', m' < m ∧ W (i + 1) m' σ' H') ∧ ∀ x H', J.yld i H x H' → g x σ H' fun σ2 H2 => tb { D with nx := N, ct := N, bk := D.nx } σ2 H2)) : tFor wi g tb D σ H := h
theorem w_irng1 {σ : L2.St} {H : Hp} {ta : TA} {R : It → Hp → Prop} (h : ta σ H fun vs H1 => ∃ j : Int, vs = [.int j] ∧ -(2 ^ 62) ≤ j ∧ j < 2 ^ 62 ∧ R (Itr 0 j.toNat) H1) : iRng1 ta σ H R := h
theorem w_irng2 {σ : L2.St} {H : Hp} {ta : TA} {R : It → Hp → Prop} (h : ta σ H fun vs H1 => ∃ i j : Int, vs = [.int i, .int j] ∧ (-(2 ^ 62) ≤ i ∧ i < 2 ^ 62 ∧ -(2 ^ 62) ≤ j ∧ j < 2 ^ 62) ∧ R (Itr i (j - i).toNat) H1) : iRng2 ta σ H R := h
theorem w_ilist {K : PySem.W.Frag} {σ : L2.St} {H : Hp} {te : TE} {R : It → Hp → Prop} (h : te σ H fun x H1 => ∃ a, x = .ref a ∧ (∃ xs, SqL K H1 a xs) ∧ R (Itl K a) H1) : iList K te σ H R := h
theorem w_itup {K : PySem.W.Frag} {σ : L2.St} {H : Hp} {te : TE} {R : It → Hp → Prop} (h : te σ H fun x H1 => ∃ a, x = .ref a ∧ (∃ xs, SqT K H1 a xs) ∧ R (Itt K a) H1) : iTup K te σ H R := h
/-! ### steps -/
section
variable {K : PySem.W.Frag} {H : Hp} {Q : VK} {p : Addr}
theorem ix_LN {a : List Nat} {z : Int} {i : Nat} (h : SqL K H p (vN a)) (hi : i < a.length) (e : z = (i : Int)) (q : Q (.int ((a.getD i 0 : Nat) : Int)) H) : rIxL K (.ref p) (.int z) H Q := ⟨p, _, _, _, rfl, rfl, h, at_vN e hi, q⟩
theorem ix_TN {a : List Nat} {z : Int} {i : Nat} (h : SqT K H p (vN a)) (hi : i < a.length) (e : z = (i : Int)) (q : Q (.int ((a.getD i 0 : Nat) : Int)) H) : rIxT K (.ref p) (.int z) H Q := ⟨p, _, _, _, rfl, rfl, h, at_vN e hi, q⟩
theorem ix_L {xs : List V} {z : Int} {i : Nat} {v : V} (h : SqL K H p xs) (hi : xs[i]? = some v) (e : z = (i : Int)) (q : Q v H) : rIxL K (.ref p) (.int z) H Q := ⟨p, _, _, _, rfl, rfl, h, at_of e hi, q⟩
theorem ix_T {xs : List V} {z : Int} {i : Nat} {v : V} (h : SqT K H p xs) (hi : xs[i]? = some v) (e : z = (i : Int)) (q : Q v H) : rIxT K (.ref p) (.int z) H Q := ⟨p, _, _, _, rfl, rfl, h, at_of e hi, q⟩
theorem len_L {xs : List V} (h : SqL K H p xs) (q : Q (.int (xs.length : Nat)) H) : rLenQ K [.ref p] H Q := ⟨p, xs, rfl, .inl h, q⟩
theorem len_T {xs : List V} (h : SqT K H p xs) (q : Q (.int (xs.length : Nat)) H) : rLenQ K [.ref p] H Q := ⟨p, xs, rfl, .inr h, q⟩
theorem len_LN {a : List Nat} (h : SqL K H p (vN a)) (q : Q (.int (a.length : Nat)) H) : rLenQ K [.ref p] H Q := ⟨p, _, rfl, .inl h, by rw [vN_len]; exact q⟩
theorem len_TN {a : List Nat} (h : SqT K H p (vN a)) (q : Q (.int (a.length : Nat)) H) : rLenQ K [.ref p] H Q := ⟨p, _, rfl, .inr h, by rw [vN_len]; exact q⟩
theorem len_TI {a : List Int} (h : SqT K H p (vI a)) (q : Q (.int (a.length : Nat)) H) : rLenQ K [.ref p] H Q := ⟨p, _, rfl, .inr h, by rw [vI_len]; exact q⟩
theorem len_LI {a : List Int} (h : SqL K H p (vI a)) (q : Q (.int (a.length : Nat)) H) : rLenQ K [.ref p] H Q := ⟨p, _, rfl, .inl h, by rw [vI_len]; exact q⟩
theorem eq_I {i j : Int} (q : Q (.bl (decide (i = j))) H) : rEq (.int i) (.int j) H Q := ⟨rfl, by
  have e : decide (V.int i = V.int j) = decide (i = j) := by
    by_cases h : i = j
    · rw [decide_eq_true h, decide_eq_true (by rw [h])]
    · rw [decide_eq_false h, decide_eq_false (fun z => h (V.int.inj z))]
  rw [e]; exact q⟩
theorem ne_I {i j : Int} (q : Q (.bl (!decide (i = j))) H) : rNe (.int i) (.int j) H Q := ⟨rfl, by
  have e : decide (V.int i = V.int j) = decide (i = j) := by
    by_cases h : i = j
    · rw [decide_eq_true h, decide_eq_true (by rw [h])]
    · rw [decide_eq_false h, decide_eq_false (fun z => h (V.int.inj z))]
  rw [e]; exact q⟩
theorem eq_B {i j : Bool} (q : Q (.bl (i == j)) H) : rEq (.bl i) (.bl j) H Q := ⟨rfl, by
  have e : decide (V.bl i = V.bl j) = (i == j) := by cases i <;> cases j <;> decide
  rw [e]; exact q⟩
theorem ne_B {i j : Bool} (q : Q (.bl (i != j)) H) : rNe (.bl i) (.bl j) H Q := ⟨rfl, by
  have e : (!decide (V.bl i = V.bl j)) = (i != j) := by cases i <;> cases j <;> decide
  rw [e]; exact q⟩
/-- % and // by a positive number below 2 ^ 30 -/
theorem mod_I {i j : Int} (h : 0 < j) (q : Q (.int (i % j)) H) : rModI (.int i) (.int j) H Q := ⟨i, j, rfl, rfl, by omega, by show Q (.int (i.fmod j)) H; rw [fmod_pos h]; exact q⟩
theorem div_I {i j : Int} (h : 0 < j) (h2 : j < 18446744073709551616) (q : Q (.int (i / j)) H) : rDivI (.int i) (.int j) H Q := ⟨i, j, rfl, rfl, ⟨by omega, by
  have h3 : j.natAbs < 2 ^ 64 := by show j.natAbs < 18446744073709551616; omega
  have := (Nat.log2_lt (n := j.natAbs) (k := 64) (by omega)).mpr h3
  omega⟩, by show Q (.int (i.fdiv j)) H; rw [fdiv_pos h]; exact q⟩
theorem mul_I {i j : Int} (h : (-(2 ^ 64) < i ∧ i < 2 ^ 64) ∨ (-(2 ^ 64) < j ∧ j < 2 ^ 64)) (q : Q (.int (i * j)) H) : rMulI (.int i) (.int j) H Q := ⟨i, j, rfl, rfl, h, q⟩
theorem seqIx {i n : Nat} {z : Int} (e : z = (i : Int)) (h : i < n) : seqIndex? z n = some i := by
  subst e
  unfold seqIndex?
  first
    | (rw [if_neg (by omega), if_pos (by omega)]; rfl)
    | (simp; omega)
theorem eraseIdx_map' {α β : Type} (f : α → β) : ∀ (l : List α) (i : Nat), (l.map f).eraseIdx i = (l.eraseIdx i).map f
  | [], _ => rfl
  | _ :: _, 0 => rfl
  | a :: l, i + 1 => by
    show f a :: (l.map f).eraseIdx i = f a :: (l.eraseIdx i).map f
    rw [eraseIdx_map' f l i]
theorem pop_N {a : List Nat} {z : Int} {i : Nat} (h : H p = some (.lst (vN a))) (hi : i < a.length) (hz : a.length ≤ 100000) (e : z = (i : Int)) (q : Q (.int ((a.getD i 0 : Nat) : Int)) (upd H p (.lst (vN (a.eraseIdx i))))) : rPopAt (.ref p) [.int z] H Q := by
  refine ⟨p, _, z, i, _, rfl, rfl, h, by omega, by omega, seqIx e (by rw [vN_len]; exact hi), vN_at (getD_at hi), ?_⟩
  have e2 : (vN a).eraseIdx i = vN (a.eraseIdx i) := by
    show (a.map _).eraseIdx i = (a.eraseIdx i).map _
    exact eraseIdx_map' _ _ _
  rw [e2]
  exact q
theorem app_N {a : List Nat} {n : Nat} (h : H p = some (.lst (vN a))) (hz : a.length < 100000) (q : Q .non (upd H p (.lst (vN (a ++ [n]))))) : rAppend (.ref p) [.int (n : Int)] H Q :=
  ⟨p, _, _, rfl, rfl, h, by rw [vN_len]; exact zlt hz, by
    have e : vN a ++ [V.int (n : Int)] = vN (a ++ [n]) := by
      show a.map _ ++ _ = (a ++ [n]).map _
      rw [List.map_append] <;> rfl
    rw [e]; exact q⟩
theorem app_V {xs : List V} {v : V} (h : H p = some (.lst xs)) (hz : xs.length < 100000) (q : Q .non (upd H p (.lst (xs ++ [v])))) : rAppend (.ref p) [v] H Q := ⟨p, _, _, rfl, rfl, h, zlt hz, q⟩
theorem isL {xs : List V} (h : SqL K H p xs) : tyV K "list" (.ref p) H := .inl ⟨rfl, _, h⟩
theorem tup_L {xs : List V} (h : SqL K H p xs) (q : ∀ l, H l = none → Q (.ref l) (upd H l (.tup xs))) : rTupOf K [.ref p] H Q := ⟨p, xs, rfl, .inl ⟨h, q⟩⟩
end
theorem rgV_N (n : Nat) : rgV 0 (n : Int) = vN (List.range n) := by
  show (List.range ((n : Int) - 0).toNat).map _ = (List.range n).map _
  have e : ((n : Int) - 0).toNat = n := by omega
  rw [e]
  refine List.map_congr_left fun i _ => ?_
  show V.int (0 + (i : Nat)) = V.int (i : Int)
  rw [Int.zero_add]
theorem rgOk_N {n : Nat} (h : n ≤ 100000) : RgOk 0 (n : Int) := .of_le (by omega) (by omega) (by omega) (by omega)

/-! ### permutations of 0 .. n - 1 -/
/-- the numbers 0 .. n - 1 in some order -/
def IsP (n : Nat) (a : List Nat) : Prop := a.Perm (List.range n)
theorem IsP.len {n : Nat} {a : List Nat} (h : IsP n a) : a.length = n := by rw [List.Perm.length_eq h, List.length_range]
theorem IsP.lt {n : Nat} {a : List Nat} (h : IsP n a) {x : Nat} (m : x ∈ a) : x < n := List.mem_range.mp ((List.Perm.mem_iff h).mp m)
theorem IsP.mem {n : Nat} {a : List Nat} (h : IsP n a) {x : Nat} (m : x < n) : x ∈ a := (List.Perm.mem_iff h).mpr (List.mem_range.mpr m)
theorem IsP.nd {n : Nat} {a : List Nat} (h : IsP n a) : a.Nodup := (List.Perm.nodup_iff h).mpr List.nodup_range
theorem IsP.getD_lt {n : Nat} {a : List Nat} (h : IsP n a) {i : Nat} (m : i < n) : a.getD i 0 < n := by
  have e := getD_at (a := a) (i := i) (by rw [h.len]; exact m)
  exact h.lt (List.mem_of_getElem? e)
theorem nd_sub_len {α : Type} [DecidableEq α] : ∀ {a m : List α}, a.Nodup → (∀ x ∈ a, x ∈ m) → a.length ≤ m.length
  | [], _, _, _ => Nat.zero_le _
  | x :: r, m, nd, hs => by
    obtain ⟨hx, nr⟩ := List.nodup_cons.mp nd
    have hm : x ∈ m := hs x List.mem_cons_self
    have ih : r.length ≤ (m.erase x).length := nd_sub_len nr fun y hy => by
      have hne : y ≠ x := fun e => hx (by rw [← e]; exact hy)
      exact (List.mem_erase_of_ne hne).mpr (hs y (List.mem_cons_of_mem _ hy))
    rw [List.length_erase_of_mem hm] at ih
    have : 0 < m.length := List.length_pos_of_mem hm
    show r.length + 1 ≤ _
    omega
/-- a list without twice the same, as long as it is told to be within m's: all of m -/
theorem perm_of_nd_sub : ∀ {a m : List Nat}, a.Nodup → (∀ x ∈ a, x ∈ m) → m.length ≤ a.length → a.Perm m
  | [], m, _, _, hl => by
    have : m = [] := List.length_eq_zero_iff.mp (Nat.le_zero.mp hl)
    rw [this]
  | x :: r, m, nd, hs, hl => by
    obtain ⟨hx, nr⟩ := List.nodup_cons.mp nd
    have hm : x ∈ m := hs x List.mem_cons_self
    have p1 : m.Perm (x :: m.erase x) := List.perm_cons_erase hm
    have ih : r.Perm (m.erase x) := by
      refine perm_of_nd_sub nr (fun y hy => ?_) ?_
      · have hne : y ≠ x := fun e => hx (e ▸ hy)
        exact (List.mem_erase_of_ne hne).mpr (hs y (List.mem_cons_of_mem _ hy))
      · rw [List.length_erase_of_mem hm]
        have : (x :: r).length = r.length + 1 := rfl
        omega
    exact (List.Perm.cons x ih).trans p1.symm
theorem isP_of_nd {n : Nat} {a : List Nat} (nd : a.Nodup) (hl : a.length = n) (hlt : ∀ x ∈ a, x < n) : IsP n a :=
  perm_of_nd_sub nd (fun x hx => List.mem_range.mpr (hlt x hx)) (by rw [List.length_range, hl]; exact Nat.le_refl n)
theorem isP_of_all {n : Nat} {a : List Nat} (hl : a.length = n) (h : ∀ k, k < n → k ∈ a) : IsP n a :=
  (perm_of_nd_sub List.nodup_range (fun x hx => h x (List.mem_range.mp hx)) (by rw [List.length_range, hl]; exact Nat.le_refl n)).symm

/-! ### joined and turned -/
def jn (a b : List Nat) : List Nat := a.map fun k => b.getD k 0
theorem jn_len (a b : List Nat) : (jn a b).length = a.length := List.length_map ..
theorem jn_get {a b : List Nat} {i : Nat} (h : i < a.length) : (jn a b).getD i 0 = b.getD (a.getD i 0) 0 := by
  unfold jn
  rw [List.getD_eq_getElem?_getD, List.getElem?_map, getD_at h] <;> rfl
theorem ext_getD {a b : List Nat} (hl : a.length = b.length) (h : ∀ i, i < a.length → a.getD i 0 = b.getD i 0) : a = b := by
  refine List.ext_getElem? fun i => ?_
  by_cases hi : i < a.length
  · rw [getD_at hi, getD_at (hl ▸ hi), h i hi]
  · rw [List.getElem?_eq_none (by omega), List.getElem?_eq_none (by omega)]
theorem nd_getD {a : List Nat} (nd : a.Nodup) {i j : Nat} (hi : i < a.length) (hj : j < a.length) (e : a.getD i 0 = a.getD j 0) : i = j := nd_ix nd (getD_at hi) (by rw [getD_at hj, e])
theorem nd_of_getD {a : List Nat} (h : ∀ i j, i < a.length → j < a.length → a.getD i 0 = a.getD j 0 → i = j) : a.Nodup := by
  refine List.pairwise_iff_getElem.mpr fun i j hi hj hij e => ?_
  have := h i j hi hj (by rw [List.getD_eq_getElem?_getD, List.getD_eq_getElem?_getD, List.getElem?_eq_getElem hi, List.getElem?_eq_getElem hj, e])
  omega
theorem isP_jn {n : Nat} {a b : List Nat} (ha : IsP n a) (hb : IsP n b) : IsP n (jn a b) := by
  refine isP_of_nd (nd_of_getD fun i j hi hj e => ?_) (by rw [jn_len, ha.len]) fun x hx => ?_
  · rw [jn_len] at hi hj
    rw [jn_get hi, jn_get hj] at e
    have hi' : a.getD i 0 < b.length := by rw [hb.len]; exact ha.getD_lt (by rw [← ha.len]; exact hi)
    have hj' : a.getD j 0 < b.length := by rw [hb.len]; exact ha.getD_lt (by rw [← ha.len]; exact hj)
    exact nd_getD ha.nd hi hj (nd_getD hb.nd hi' hj' e)
  · obtain ⟨k, hk, rfl⟩ := List.mem_map.mp hx
    exact hb.getD_lt (ha.lt hk)
theorem isP_id (n : Nat) : IsP n (List.range n) := List.Perm.refl _
/-- the way back as the program makes it -/
def trnSt (a : List Nat) (k : Nat) : List Nat := (List.range k).foldl (fun row i => row.set (a.getD i 0) i) (List.replicate a.length 0)
def trn (a : List Nat) : List Nat := trnSt a a.length
theorem trnSt_succ (a : List Nat) (k : Nat) : trnSt a (k + 1) = (trnSt a k).set (a.getD k 0) k := by
  unfold trnSt
  rw [List.range_succ, List.foldl_append] <;> rfl
theorem trnSt_len (a : List Nat) : ∀ k, (trnSt a k).length = a.length
  | 0 => List.length_replicate
  | k + 1 => by rw [trnSt_succ, List.length_set, trnSt_len a k]
theorem trnSt_get {n : Nat} {a : List Nat} (h : IsP n a) : ∀ k, k ≤ n → ∀ i, i < k → (trnSt a k).getD (a.getD i 0) 0 = i
  | 0, _, i, hi => absurd hi (Nat.not_lt_zero i)
  | k + 1, hk, i, hi => by
    have hka : k < a.length := by rw [h.len]; omega
    rw [trnSt_succ, List.getD_eq_getElem?_getD]
    by_cases e : i = k
    · subst e
      rw [List.getElem?_set_self (by rw [trnSt_len, h.len]; exact h.getD_lt (by omega))] <;> rfl
    · have hne : a.getD k 0 ≠ a.getD i 0 := fun z => e (nd_getD h.nd (by omega) hka z.symm)
      rw [List.getElem?_set_ne hne, ← List.getD_eq_getElem?_getD]
      exact trnSt_get h k (by omega) i (by omega)
theorem trn_len (a : List Nat) : (trn a).length = a.length := trnSt_len a _
theorem trn_get {n : Nat} {a : List Nat} (h : IsP n a) {i : Nat} (hi : i < n) : (trn a).getD (a.getD i 0) 0 = i := trnSt_get h a.length (by rw [h.len]; exact Nat.le_refl n) i (by rw [h.len]; exact hi)
theorem isP_get_of {n : Nat} {a : List Nat} (h : IsP n a) {x : Nat} (hx : x < n) : ∃ i, i < n ∧ a.getD i 0 = x := by
  obtain ⟨i, hi, e⟩ := List.getElem_of_mem (h.mem hx)
  refine ⟨i, by rw [← h.len]; exact hi, ?_⟩
  rw [List.getD_eq_getElem?_getD, List.getElem?_eq_getElem hi, e] <;> rfl
theorem isP_trn {n : Nat} {a : List Nat} (h : IsP n a) : IsP n (trn a) := by
  refine isP_of_all (by rw [trn_len, h.len]) fun k hk => ?_
  have e := trn_get h hk
  have hl : a.getD k 0 < (trn a).length := by rw [trn_len, h.len]; exact h.getD_lt hk
  have m := List.mem_of_getElem? (getD_at hl)
  rw [e] at m
  exact m
theorem trn_get' {n : Nat} {a : List Nat} (h : IsP n a) {x : Nat} (hx : x < n) : a.getD ((trn a).getD x 0) 0 = x := by
  obtain ⟨i, hi, e⟩ := isP_get_of h hx
  rw [← e, trn_get h hi]
theorem jn_trn {n : Nat} {a : List Nat} (h : IsP n a) : jn a (trn a) = List.range n := by
  refine ext_getD (by rw [jn_len, h.len, List.length_range]) fun i hi => ?_
  rw [jn_len] at hi
  have hi' : i < n := by rw [← h.len]; exact hi
  rw [jn_get hi, trn_get h hi', List.getD_eq_getElem?_getD, List.getElem?_range hi'] <;> rfl
theorem trn_jn {n : Nat} {a : List Nat} (h : IsP n a) : jn (trn a) a = List.range n := by
  refine ext_getD (by rw [jn_len, trn_len, h.len, List.length_range]) fun i hi => ?_
  rw [jn_len, trn_len] at hi
  have hi' : i < n := by rw [← h.len]; exact hi
  rw [jn_get (by rw [trn_len]; exact hi), trn_get' h hi', List.getD_eq_getElem?_getD, List.getElem?_range hi'] <;> rfl
theorem range_getD {n i : Nat} (h : i < n) : (List.range n).getD i 0 = i := by rw [List.getD_eq_getElem?_getD, List.getElem?_range h] <;> rfl
theorem jn_id {n : Nat} {a : List Nat} (h : ∀ x ∈ a, x < n) : jn a (List.range n) = a := by
  unfold jn
  conv => rhs; rw [← List.map_id a]
  exact List.map_congr_left fun x hx => range_getD (h x hx)
theorem id_jn (a : List Nat) : jn (List.range a.length) a = a := by
  refine ext_getD (by rw [jn_len, List.length_range]) fun i hi => ?_
  rw [jn_len, List.length_range] at hi
  rw [jn_get (by rw [List.length_range]; exact hi), range_getD hi]
theorem jn_assoc {a b c : List Nat} (h : ∀ x ∈ a, x < b.length) : jn (jn a b) c = jn a (jn b c) := by
  unfold jn
  rw [List.map_map]
  refine List.map_congr_left fun x hx => ?_
  show c.getD (b.getD x 0) 0 = (jn b c).getD x 0
  rw [jn_get (h x hx)]
/-- a seating -/
def SeatB (a : List Int) : Bool := decide (1 ≤ a.length) && decide (a.length ≤ 16) && (List.range a.length).all fun k => decide ((k : Int) ∈ a)
theorem seatB_N {n : Nat} {a : List Nat} (h : IsP n a) (h1 : 1 ≤ n) (h2 : n ≤ 16) : SeatB (a.map fun (x : Nat) => (x : Int)) = true := by
  unfold SeatB
  rw [List.length_map, h.len, decide_eq_true h1, decide_eq_true h2]
  refine List.all_eq_true.mpr fun k hk => decide_eq_true ?_
  exact List.mem_map.mpr ⟨k, h.mem (List.mem_range.mp hk), rfl⟩
theorem seatB_is {a : List Int} (h : SeatB a = true) : ∃ b : List Nat, IsP a.length b ∧ a = b.map (fun (x : Nat) => (x : Int)) ∧ 1 ≤ a.length ∧ a.length ≤ 16 := by
  unfold SeatB at h
  rw [Bool.and_eq_true, Bool.and_eq_true] at h
  obtain ⟨⟨h1, h2⟩, h3⟩ := h
  have h3 := List.all_eq_true.mp h3
  have hin : ∀ k, k < a.length → k ∈ a.map Int.toNat := fun k hk => by
    have q := of_decide_eq_true (h3 k (List.mem_range.mpr hk))
    exact List.mem_map.mpr ⟨_, q, by omega⟩
  have P : IsP a.length (a.map Int.toNat) := isP_of_all (List.length_map ..) hin
  have nn : ∀ x ∈ a, 0 ≤ x := by
    -- were one below nought, its place would be free for none of 0 .. n - 1
    have hall : ∀ k, k < a.length → (k : Int) ∈ a := fun k hk => of_decide_eq_true (h3 k (List.mem_range.mpr hk))
    have : (List.range a.length).map (fun (x : Nat) => (x : Int)) |>.Nodup := by
      refine List.pairwise_map.mpr (List.Pairwise.imp (fun hne e => hne (Int.ofNat.inj e)) (List.nodup_range (n := a.length)))
    intro x hx
    refine Decidable.byContradiction fun hneg => ?_
    have hsub : ∀ y ∈ (List.range a.length).map (fun (x : Nat) => (x : Int)), y ∈ a.erase x := fun y hy => by
      obtain ⟨k, hk, e⟩ := List.mem_map.mp hy
      have hne : y ≠ x := fun z => by
        have : (k : Int) = x := e.trans z
        omega
      refine (List.mem_erase_of_ne hne).mpr ?_
      rw [← e]
      exact hall k (List.mem_range.mp hk)
    have hle := nd_sub_len this hsub
    rw [List.length_map, List.length_range, List.length_erase_of_mem hx] at hle
    have : 0 < a.length := List.length_pos_of_mem hx
    omega
  refine ⟨a.map Int.toNat, P, ?_, of_decide_eq_true h1, of_decide_eq_true h2⟩
  rw [List.map_map]
  conv => lhs; rw [← List.map_id a]
  exact List.map_congr_left fun x hx => by
    show x = ((x.toNat : Nat) : Int)
    have := nn x hx
    omega
/-! ### data as a whole -/
section
variable {K : PySem.W.Frag} {H : Hp} {Q : VK} {p q : Addr}
theorem dpAll_of : ∀ {xs : List V} {ds : List PyData}, (∀ (i : Nat) (x : V) (d : PyData), xs[i]? = some x → ds[i]? = some d → Dp K H x d) → xs.length = ds.length → DpAll K H xs ds
  | [], [], _, _ => .nil
  | [], _ :: _, _, h => by simp at h
  | _ :: _, [], _, h => by simp at h
  | x :: xs, d :: ds, h, hl => .cons (h 0 x d rfl rfl) (dpAll_of (fun i y e h1 h2 => h (i + 1) y e (by simpa using h1) (by simpa using h2)) (by simpa using hl))
theorem dpAll_I : ∀ (a : List Int), DpAll K H (vI a) (a.map PyData.int)
  | [] => .nil
  | x :: r => .cons (.int x) (dpAll_I r)
def dT (a : List Int) : PyData := .tuple (a.map PyData.int)
def dL (a : List Int) : PyData := .list (a.map PyData.int)
theorem dp_T {a : List Int} (h : SqT K H p (vI a)) : Dp K H (.ref p) (dT a) := .tup h (dpAll_I a)
theorem dp_L {a : List Int} (h : SqL K H p (vI a)) : Dp K H (.ref p) (dL a) := .lst h (dpAll_I a)
theorem eqvAll_map {α : Type} [DecidableEq α] {f : α → PyData} (h : ∀ x y, PyData.eqv (f x) (f y) = decide (x = y)) : ∀ (a b : List α), PyData.eqvAll (a.map f) (b.map f) = decide (a = b)
  | [], [] => by rw [decide_eq_true rfl] <;> simp [PyData.eqvAll]
  | [], _ :: _ => by rw [decide_eq_false (fun z => by cases z)] <;> simp [PyData.eqvAll]
  | _ :: _, [] => by rw [decide_eq_false (fun z => by cases z)] <;> simp [PyData.eqvAll]
  | x :: a, y :: b => by
    show PyData.eqvAll (f x :: a.map f) (f y :: b.map f) = _
    unfold PyData.eqvAll
    rw [h, eqvAll_map h a b]
    by_cases e : x = y
    · subst e
      by_cases e2 : a = b
      · subst e2; simp
      · rw [decide_eq_false e2, Bool.and_false, decide_eq_false (fun z => e2 (List.cons.inj z).2)]
    · rw [decide_eq_false e, Bool.false_and, decide_eq_false (fun z => e (List.cons.inj z).1)]
theorem eqv_int (x y : Int) : PyData.eqv (.int x) (.int y) = decide (x = y) := by
  unfold PyData.eqv
  by_cases e : x = y
  · subst e; simp
  · rw [decide_eq_false e]; simpa using e
theorem eqv_T (a b : List Int) : PyData.eqv (dT a) (dT b) = decide (a = b) := by
  unfold dT PyData.eqv
  exact eqvAll_map eqv_int a b
theorem eqv_L (a b : List Int) : PyData.eqv (dL a) (dL b) = decide (a = b) := by
  unfold dL PyData.eqv
  exact eqvAll_map eqv_int a b
theorem canAll_map {α : Type} {f : α → PyData} (h : ∀ x, (f x).canLay0 = true) : ∀ (a : List α), PyData.canLayAll0 (a.map f) = true
  | [] => by simp [PyData.canLayAll0]
  | x :: a => by
    show PyData.canLayAll0 (f x :: a.map f) = true
    unfold PyData.canLayAll0
    rw [h x, canAll_map h a] <;> rfl
theorem depthAll_map {α : Type} {f : α → PyData} {n : Nat} (h : ∀ x, (f x).depth ≤ n) : ∀ (a : List α), PyData.depthAll (a.map f) ≤ n
  | [] => by simp [PyData.depthAll]
  | x :: a => by
    show PyData.depthAll (f x :: a.map f) ≤ n
    have h1 := h x
    have h2 := depthAll_map h a
    unfold PyData.depthAll
    omega
theorem can_T (a : List Int) : (dT a).canLay0 = true := by
  unfold dT PyData.canLay0
  exact canAll_map (fun x => by simp [PyData.canLay0]) a
theorem can_L (a : List Int) : (dL a).canLay0 = true := by
  unfold dL PyData.canLay0
  exact canAll_map (fun x => by simp [PyData.canLay0]) a
theorem dep_T (a : List Int) : (dT a).depth ≤ 1 := by
  unfold dT PyData.depth
  have := depthAll_map (f := PyData.int) (n := 0) (fun x => by simp [PyData.depth]) a
  omega
theorem dep_L (a : List Int) : (dL a).depth ≤ 1 := by
  unfold dL PyData.depth
  have := depthAll_map (f := PyData.int) (n := 0) (fun x => by simp [PyData.depth]) a
  omega
theorem shp {d : PyData} (h : d.canLay0 = true) (h2 : d.depth ≤ 64) : SeqAt.shaped d = true := by
  unfold SeqAt.shaped
  rw [h, decide_eq_true h2] <;> rfl
theorem shp_T (a : List Int) : SeqAt.shaped (dT a) = true := shp (can_T a) (by have := dep_T a; omega)
theorem shp_L (a : List Int) : SeqAt.shaped (dL a) = true := shp (can_L a) (by have := dep_L a; omega)
theorem eq_TI {a b : List Int} (ha : SqT K H p (vI a)) (hb : SqT K H q (vI b)) (k : Q (.bl (decide (a = b))) H) : rEqD K (.ref p) (.ref q) H Q := ⟨dT a, dT b, dp_T ha, dp_T hb, shp_T a, shp_T b, by rw [eqv_T]; exact k⟩
theorem ne_TI {a b : List Int} (ha : SqT K H p (vI a)) (hb : SqT K H q (vI b)) (k : Q (.bl (!decide (a = b))) H) : rNeD K (.ref p) (.ref q) H Q := ⟨dT a, dT b, dp_T ha, dp_T hb, shp_T a, shp_T b, by rw [eqv_T]; exact k⟩
theorem vInj {a b : List Nat} : (a.map (fun (x : Nat) => (x : Int)) = b.map (fun (x : Nat) => (x : Int))) ↔ a = b := by
  constructor
  · intro h
    have e := congrArg (List.map Int.toNat) h
    rw [List.map_map, List.map_map] at e
    have i : (Int.toNat ∘ fun (x : Nat) => (x : Int)) = id := by funext x; rfl
    rw [i, List.map_id, List.map_id] at e
    exact e
  · intro h; rw [h]
theorem dec_iff {p q : Prop} [Decidable p] [Decidable q] (h : p ↔ q) : decide p = decide q := by
  by_cases hp : p
  · rw [decide_eq_true hp, decide_eq_true (h.mp hp)]
  · rw [decide_eq_false hp, decide_eq_false (fun z => hp (h.mpr z))]
theorem eq_TN {a b : List Nat} (ha : SqT K H p (vN a)) (hb : SqT K H q (vN b)) (k : Q (.bl (decide (a = b))) H) : rEqD K (.ref p) (.ref q) H Q := by
  rw [vN_eq] at ha hb
  refine eq_TI ha hb ?_
  rw [dec_iff vInj]
  exact k
theorem ne_TN {a b : List Nat} (ha : SqT K H p (vN a)) (hb : SqT K H q (vN b)) (k : Q (.bl (!decide (a = b))) H) : rNeD K (.ref p) (.ref q) H Q := by
  rw [vN_eq] at ha hb
  refine ne_TI ha hb ?_
  rw [dec_iff vInj]
  exact k
theorem set_N {a : List Nat} {z : Int} {i n : Nat} {R : Hp → Prop} (h : H p = some (.lst (vN a))) (hi : i < a.length) (e : z = (i : Int)) (k : R (upd H p (.lst (vN (a.set i n))))) : rSetL (.ref p) (.int z) (.int (n : Int)) H R := by
  refine ⟨p, _, z, i, rfl, rfl, h, ?_, ?_⟩
  · unfold ixN
    rw [vN_len, if_pos (by omega), if_pos (by omega), e] <;> rfl
  · have e2 : (vN a).set i (V.int (n : Int)) = vN (a.set i n) := by
      show (a.map _).set i _ = (a.set i n).map _
      rw [List.map_set]
    rw [e2]
    exact k
theorem rep_0 {n : Nat} (hn : n ≤ 100000) (h : H p = some (.lst [V.int 0])) (k : ∀ l, H l = none → Q (.ref l) (upd H l (.lst (vN (List.replicate n 0))))) : rRep (.ref p) (.int (n : Int)) H Q := by
  refine ⟨p, _, _, rfl, rfl, h, by omega, by omega, zl (by show 1 * ((n : Int)).toNat ≤ 100000; omega), fun l hl => ?_⟩
  have e : (List.replicate ((n : Int)).toNat [V.int 0]).flatten = vN (List.replicate n 0) := by
    show (List.replicate n [V.int 0]).flatten = (List.replicate n 0).map _
    rw [List.map_replicate]
    clear k hl
    induction n with
    | zero => rfl
    | succ m ih => rw [List.replicate_succ, List.flatten_cons, ih (by omega), List.replicate_succ] <;> rfl
  rw [e]
  exact k l hl
end
theorem if_nd {c : Prop} [Decidable c] {A B : Prop} (h1 : ¬ c → A) (h2 : c → B) : if (!decide c) = true then A else B := by
  by_cases h : c
  · rw [decide_eq_true h]; exact if_f rfl (h2 h)
  · rw [decide_eq_false h]; exact if_t rfl (h1 h)
theorem if_nb {c : Bool} {A B : Prop} (h1 : c = false → A) (h2 : c = true → B) : if (!c) = true then A else B := by
  cases c with
  | true => exact if_f rfl (h2 rfl)
  | false => exact if_t rfl (h1 rfl)
theorem take_more {α : Type} {l : List α} {i : Nat} {x : α} (h : l[i]? = some x) : l.take (i + 1) = l.take i ++ [x] := by
  rw [List.take_add_one, h] <;> rfl
theorem vN_get {a : List Nat} {i : Nat} {x : V} (h : (vN a)[i]? = some x) : ∃ n, a[i]? = some n ∧ x = V.int (n : Int) := by
  have h : (a.map fun (n : Nat) => V.int (n : Int))[i]? = some x := h
  rw [List.getElem?_map] at h
  cases e : a[i]? with
  | none => rw [e] at h; cases h
  | some n => rw [e] at h; exact ⟨n, rfl, (Option.some.inj h).symm⟩
theorem vN_app (a : List Nat) (n : Nat) : vN a ++ [V.int (n : Int)] = vN (a ++ [n]) := by
  show a.map _ ++ _ = (a ++ [n]).map _
  rw [List.map_append] <;> rfl
theorem rangeS {α : Type} (f : Nat → α) (j : Nat) : (List.range (j + 1)).map f = (List.range j).map f ++ [f j] := by rw [List.range_succ, List.map_append] <;> rfl
end Shf

local macro_rules | `(tactic| walk_at "ex") => `(tactic| repeat (with_reducible first
  | refine Shf.w_op ?_ | refine Shf.w_c ?_
  | (show L2.tVar _ _ _ _; with_unfolding_all refine Shf.w_var rfl ?_)
  | refine Shf.w_nil ?_ | refine Shf.w_cons ?_ | refine Shf.w_cb ?_ | refine Shf.w_call ?_ | refine Shf.w_test ?_ | refine Shf.w_b ?_ | refine Shf.w_bex ?_
  | refine Shf.w_and ?_ | refine Shf.w_or ?_ | refine Shf.w_not ?_ | refine Shf.w_andV ?_ | refine Shf.w_orV ?_ | refine Shf.w_notV ?_ | refine Shf.w_ife ?_
  | refine Shf.w_add ?_ | refine Shf.w_sub ?_ | refine Shf.w_neg ?_ | refine Shf.w_lt ?_ | refine Shf.w_le ?_ | refine Shf.w_gt ?_ | refine Shf.w_ge ?_ | refine Shf.eq_I ?_ | refine Shf.ne_I ?_ | refine Shf.eq_B ?_ | refine Shf.ne_B ?_
  | refine Shf.w_tup ?_ | refine Shf.w_lst ?_ | refine Shf.w_lrg ?_ | refine Shf.w_trg ?_ | refine Shf.w_rg1 ?_ | refine Shf.w_iex ?_ | refine Shf.w_bm ?_ | refine Shf.w_bm0 ?_ | refine Shf.w_un ?_ | refine Shf.w_fld ?_ | refine Shf.w_dget ?_ | refine Shf.w_dget1 ?_ | refine Shf.w_meth ?_ | refine Shf.w_make ?_
  | refine Shf.w_yes ?_ | refine L2.iteT ?_ | refine L2.iteF ?_ | refine Shf.w_irng1 ?_ | refine Shf.w_irng2 ?_ | refine Shf.w_ilist ?_ | refine Shf.w_itup ?_))
local macro_rules | `(tactic| walk_at "st") => `(tactic| with_reducible first | refine Shf.w_asg ?_ | refine Shf.w_drop ?_ | refine Shf.w_ret ?_ | refine Shf.w_next ?_ | refine Shf.w_asgS ?_ | refine Shf.w_sfld ?_ | refine Shf.w_for ?_ | refine Shf.w_if ?_)
local macro_rules | `(tactic| walk_at "sq") => `(tactic| with_reducible refine Shf.w_seq ?_)
local macro_rules | `(tactic| walk_at "re") => `(tactic| repeat (with_reducible first
  | refine Shf.w_asg ?_ | refine Shf.w_drop ?_ | refine Shf.w_ret ?_ | refine Shf.w_next ?_ | refine Shf.w_op ?_ | refine Shf.w_c ?_
  | (show L2.tVar _ _ _ _; with_unfolding_all refine Shf.w_var rfl ?_)
  | refine Shf.w_nil ?_ | refine Shf.w_cons ?_ | refine Shf.w_cb ?_ | refine Shf.w_call ?_ | refine Shf.w_test ?_ | refine Shf.w_b ?_ | refine Shf.w_bex ?_
  | refine Shf.w_and ?_ | refine Shf.w_or ?_ | refine Shf.w_not ?_ | refine Shf.w_andV ?_ | refine Shf.w_orV ?_ | refine Shf.w_notV ?_ | refine Shf.w_ife ?_
  | refine Shf.w_add ?_ | refine Shf.w_sub ?_ | refine Shf.w_neg ?_ | refine Shf.w_lt ?_ | refine Shf.w_le ?_ | refine Shf.w_gt ?_ | refine Shf.w_ge ?_ | refine Shf.eq_I ?_ | refine Shf.ne_I ?_ | refine Shf.eq_B ?_ | refine Shf.ne_B ?_
  | refine Shf.w_tup ?_ | refine Shf.w_lst ?_ | refine Shf.w_lrg ?_ | refine Shf.w_trg ?_ | refine Shf.w_rg1 ?_ | refine Shf.w_iex ?_ | refine Shf.w_bm ?_ | refine Shf.w_bm0 ?_ | refine Shf.w_un ?_ | refine Shf.w_asgS ?_ | refine Shf.w_fld ?_ | refine Shf.w_sfld ?_ | refine Shf.w_dget ?_ | refine Shf.w_dget1 ?_ | refine Shf.w_meth ?_ | refine Shf.w_make ?_
  | refine Shf.w_yes ?_ | refine L2.iteT ?_ | refine L2.iteF ?_ | refine Shf.w_irng1 ?_ | refine Shf.w_irng2 ?_ | refine Shf.w_ilist ?_ | refine Shf.w_itup ?_))
local macro_rules | `(tactic| walk_at "rd") => `(tactic| repeat (with_reducible first
  | refine Shf.w_seq ?_ | refine Shf.w_if ?_ | refine Shf.w_asg ?_ | refine Shf.w_drop ?_ | refine Shf.w_ret ?_ | refine Shf.w_next ?_ | refine Shf.w_op ?_ | refine Shf.w_c ?_
  | (show L2.tVar _ _ _ _; with_unfolding_all refine Shf.w_var rfl ?_)
  | refine Shf.w_nil ?_ | refine Shf.w_cons ?_ | refine Shf.w_cb ?_ | refine Shf.w_call ?_ | refine Shf.w_test ?_ | refine Shf.w_b ?_ | refine Shf.w_bex ?_
  | refine Shf.w_and ?_ | refine Shf.w_or ?_ | refine Shf.w_not ?_ | refine Shf.w_andV ?_ | refine Shf.w_orV ?_ | refine Shf.w_notV ?_ | refine Shf.w_ife ?_
  | refine Shf.w_add ?_ | refine Shf.w_sub ?_ | refine Shf.w_neg ?_ | refine Shf.w_lt ?_ | refine Shf.w_le ?_ | refine Shf.w_gt ?_ | refine Shf.w_ge ?_ | refine Shf.eq_I ?_ | refine Shf.ne_I ?_ | refine Shf.eq_B ?_ | refine Shf.ne_B ?_
  | refine Shf.w_tup ?_ | refine Shf.w_lst ?_ | refine Shf.w_lrg ?_ | refine Shf.w_trg ?_ | refine Shf.w_rg1 ?_ | refine Shf.w_iex ?_ | refine Shf.w_bm ?_ | refine Shf.w_bm0 ?_ | refine Shf.w_un ?_ | refine Shf.w_asgS ?_ | refine Shf.w_fld ?_ | refine Shf.w_sfld ?_ | refine Shf.w_dget ?_ | refine Shf.w_dget1 ?_ | refine Shf.w_meth ?_ | refine Shf.w_make ?_
  | refine Shf.w_yes ?_ | refine L2.iteT ?_ | refine L2.iteF ?_ | refine Shf.w_for ?_ | refine Shf.w_irng1 ?_ | refine Shf.w_irng2 ?_ | refine Shf.w_ilist ?_ | refine Shf.w_itup ?_))
/-! the seats: is_seating .. back; the laws' common helpers -/
namespace Shf
open PySem L2
def sp_law (K : PySem.W.Frag) : Sp := fun vs H Q _ => ∃ (a : Addr) (ns : List Int), vs = [.ref a] ∧ SqL K H a (ns.map V.int) ∧ ns.length ≤ 63 ∧ ∀ H', Q (.bl true) H'
theorem len_law (K : PySem.W.Frag) (g : Gd) (vs : List V) (H : Hp) (Q : VK) (E : XK) (h : sp_law K vs H Q E) : vs.length = 1 := by obtain ⟨_, _, rfl, _⟩ := h; rfl
/-- the reading of a def's body -/
abbrev Rd1 (t : TS) (N : List Str) (vs : List V) (H : Hp) (Q : VK) : Prop := t { nx := fun _ H' => Q .non H', rt := Q } (start N vs) H
/-- membership of an int in a list of ints -/
theorem inV_I (x : Int) (a : List Int) : inV (V.int x) (vI a) = decide (x ∈ a) := by
  unfold inV
  rw [List.any_map]
  induction a with
  | nil => rfl
  | cons y r ih =>
    rw [List.any_cons, ih]
    show (eqV (V.int y) (V.int x) || _) = _
    by_cases e : x = y
    · subst e
      have : eqV (V.int x) (V.int x) = true := by simp [eqV]
      rw [this, decide_eq_true (List.mem_cons_self)] <;> rfl
    · have : eqV (V.int y) (V.int x) = false := by simp [eqV]; exact fun z => e z.symm
      rw [this, Bool.false_or]
      by_cases m : x ∈ r
      · rw [decide_eq_true m, decide_eq_true (List.mem_cons_of_mem _ m)]
      · rw [decide_eq_false m, decide_eq_false (fun z => by rcases List.mem_cons.mp z with z | z; exact e z; exact m z)]
theorem flat_I (a : List Int) : (vI a).all flatV = true := by
  rw [List.all_map]
  exact List.all_eq_true.mpr fun _ _ => rfl
section
variable {K : PySem.W.Frag} {H : Hp} {Q : VK} {p : Addr}
theorem in_TI {a : List Int} {x : Int} (h : SqT K H p (vI a)) (k : Q (.bl (decide (x ∈ a))) H) : rIn K false (.int x) (.ref p) H Q := ⟨p, _, rfl, .inr h, rfl, flat_I a, by rw [inV_I]; exact k⟩
theorem notin_TI {a : List Int} {x : Int} (h : SqT K H p (vI a)) (k : Q (.bl (!decide (x ∈ a))) H) : rIn K true (.int x) (.ref p) H Q := ⟨p, _, rfl, .inr h, rfl, flat_I a, by rw [inV_I]; exact k⟩
theorem in_LI {a : List Int} {x : Int} (h : SqL K H p (vI a)) (k : Q (.bl (decide (x ∈ a))) H) : rIn K false (.int x) (.ref p) H Q := ⟨p, _, rfl, .inl h, rfl, flat_I a, by rw [inV_I]; exact k⟩
theorem notin_LI {a : List Int} {x : Int} (h : SqL K H p (vI a)) (k : Q (.bl (!decide (x ∈ a))) H) : rIn K true (.int x) (.ref p) H Q := ⟨p, _, rfl, .inl h, rfl, flat_I a, by rw [inV_I]; exact k⟩
end
theorem set_I {H : Hp} {p : Addr} {a : List Int} {z n : Int} {i : Nat} {R : Hp → Prop} (h : H p = some (.lst (vI a))) (hi : i < a.length) (e : z = (i : Int)) (k : R (upd H p (.lst (vI (a.set i n))))) : rSetL (.ref p) (.int z) (.int n) H R := by
  refine ⟨p, _, z, i, rfl, rfl, h, ?_, ?_⟩
  · unfold ixN
    rw [vI_len, if_pos (by omega), if_pos (by omega), e] <;> rfl
  · have e2 : (vI a).set i (V.int n) = vI (a.set i n) := by
      show (a.map _).set i _ = (a.set i n).map _
      rw [List.map_set]
    rw [e2]
    exact k
theorem pow_10 {H : Hp} {Q : VK} {n : Nat} (hn : n ≤ 1000) (k : Q (.int (10 ^ n)) H) : rPowI (.int 10) (.int (n : Int)) H Q := ⟨10, n, rfl, rfl, ⟨by omega, by omega, by decide⟩, k⟩
theorem is_bl {K : PySem.W.Frag} {H : Hp} {Q : VK} {b : Bool} (k : Q (.bl true) H) : rIsi K [.bl b, .ty "bool"] H Q := ⟨_, _, .type "bool", _, true, rfl, .ty "bool", .base (.bl b), kit_ty (by decide +kernel), k⟩
theorem is_lst {K : PySem.W.Frag} {H : Hp} {Q : VK} {p : Addr} {xs : List V} (h : H p = some (.lst xs)) (k : Q (.bl true) H) : rIsi K [.ref p, .ty "list"] H Q :=
  ⟨_, _, .type "list", _, true, rfl, .ty "list", .base (.lst h), kit_ty (by decide +kernel), k⟩
theorem is_bool {K : PySem.W.Frag} {H : Hp} {Q : VK} {b : Bool} (k : Q (.bl true) H) : rIsi K [.bl b, .ty "bool"] H Q := ⟨_, _, .type "bool", _, true, rfl, .ty "bool", .base (.bl b), kit_ty (by decide +kernel), k⟩
theorem is_tup {K : PySem.W.Frag} {H : Hp} {Q : VK} {p : Addr} {xs : List V} (h : H p = some (.tup xs)) (k : Q (.bl true) H) : rIsi K [.ref p, .ty "tuple"] H Q :=
  ⟨_, _, .type "tuple", _, true, rfl, .ty "tuple", .base (.tup h), kit_ty (by decide +kernel), k⟩
theorem is_str {K : PySem.W.Frag} {H : Hp} {Q : VK} {b : Str} (k : Q (.bl true) H) : rIsi K [.str b, .ty "str"] H Q := ⟨_, _, .type "str", _, true, rfl, .ty "str", .base (.str b), kit_ty (by decide +kernel), k⟩
theorem ix_lastV' {K : PySem.W.Frag} {H : Hp} {Q : VK} {p : Addr} {xs : List V} {v : V} {z : Int} (h : SqL K H p (xs ++ [v])) (e : z = -1) (q : Q v H) : rIxL K (.ref p) (.int z) H Q := by
  subst e
  exact ⟨p, _, _, _, rfl, rfl, h, atI_last _ _, q⟩
theorem _root_.L2.Same.lst {K : PySem.W.Frag} {H H' : Hp} {a : Addr} {xs : List V} (e : Same H H') (h : SqL K H a xs) : SqL K H' a xs := e.seq h
theorem w_lc {wi : TI} {g : TG} {tt : TT} {te : TE} {vs : List Nat} {σ : L2.St} {H : Hp} {Q : VK} (h : wi σ H fun J H1 => ∀ D, H1 D = none → ∃ W : Nat → Nat → Hp → Prop, (∃ m, W 0 m (upd H1 D (.lst []))) ∧ ∀ i m H, W i m H →
  (J.stop i H ∧ Q (.ref D) H) ∨ (J.go i H ∧ ∃ Nx : Hp → Prop, (∀ H', Nx H' → ∃ m', m' < m ∧ W (i + 1) m' H') ∧ ∀ x H', J.yld i H x H' → g x (wipe σ vs) H' fun σ2 H2 => wipe σ2 vs = wipe σ vs ∧ tt σ2 H2 fun b H3 =>
    if b = true then te σ2 H3 fun y H4 => ∃ acc, H4 D = some (.lst acc) ∧ acc.length < sizeLine ∧ Nx (upd H4 D (.lst (acc ++ [y]))) else Nx H3)) : tLc wi g tt te vs σ H Q := h
def sp_L_cell_at (K : PySem.W.Frag) (g : Gd) : Sp := fun vs H Q _ => ∃ (a : Addr) (ns : List Int) (j : Nat), vs = [.ref a, .int (j : Int)] ∧ SqL K H a (vI ns) ∧ Q (.int (ns.getD j 0)) H
theorem len_L_cell_at (K : PySem.W.Frag) (g : Gd) (vs : List V) (H : Hp) (Q : VK) (E : XK) (h : sp_L_cell_at K g vs H Q E) : vs.length = 2 := by obtain ⟨_, _, _, rfl, _⟩ := h; rfl
abbrev N_L_cell_at : List Str := ["script", "k"]
/-- _law_cell_at -/
def t_L_cell_at (K : PySem.W.Frag) (g : Gd) (E : XK) : TS :=
  (tSeq (tIfS (tTest (tOp rLtI (tVar 1) (tCB (rLenQ K) (tCons (tVar 0) tNil)))) (tRet (tOp (rIxL K) (tVar 0) (tVar 1))) tNext)
    (tRet (tC (.int 0))))
theorem pure_L_cell_at {K : PySem.W.Frag} {g : Gd} (vs : List V) (H : Hp) (Q : VK) (E : XK) (h : sp_L_cell_at K g vs H Q E) : Rd1 (t_L_cell_at K g E) N_L_cell_at vs H Q := by
  obtain ⟨a, ns, j, rfl, hS, k⟩ := h
  unfold t_L_cell_at
  walk_at "rd"
  refine len_LI hS ?_
  walk_at "rd"
  refine if_d (fun c => ?_) (fun c => ?_)
  · walk_at "rd"
    have hj : j < ns.length := by omega
    refine ix_L (i := j) (v := .int (ns.getD j 0)) hS (vI_at ?_) rfl k
    rw [List.getD_eq_getElem?_getD, List.getElem?_eq_getElem hj] <;> rfl
  · have e : ns.getD j 0 = 0 := by
      rw [List.getD_eq_getElem?_getD, List.getElem?_eq_none (by omega)] <;> rfl
    rw [e] at k
    exact k
def sp_L_whole (K : PySem.W.Frag) (g : Gd) : Sp := fun vs H Q _ => ∃ i : Int, vs = [.int i] ∧ Q (.bl true) H
theorem len_L_whole (K : PySem.W.Frag) (g : Gd) (vs : List V) (H : Hp) (Q : VK) (E : XK) (h : sp_L_whole K g vs H Q E) : vs.length = 1 := by obtain ⟨_, rfl, _⟩ := h; rfl
abbrev N_L_whole : List Str := ["found"]
/-- _law_whole -/
def t_L_whole (K : PySem.W.Frag) (g : Gd) (E : XK) : TS :=
  (tRet (tAndV (tCB (rIsi K) (tCons (tVar 0) (tCons (tC (.ty "int")) tNil))) (tNotV (tCB (rIsi K) (tCons (tVar 0) (tCons (tC (.ty "bool")) tNil))))))
theorem pure_L_whole {K : PySem.W.Frag} {g : Gd} (vs : List V) (H : Hp) (Q : VK) (E : XK) (h : sp_L_whole K g vs H Q E) : Rd1 (t_L_whole K g E) N_L_whole vs H Q := by
  obtain ⟨i, rfl, k⟩ := h
  refine ⟨_, rfl, _, _, .type "int", _, true, rfl, .ty "int", .base (.int i), kit_ty (by decide +kernel), true, rfl, iteT ?_⟩
  exact ⟨_, rfl, _, _, .type "int", _, false, rfl, .ty "bool", .base (.int i), kit_ty (by decide +kernel), _, rfl, k⟩
def sp_is_seating (K : PySem.W.Frag) (g : Gd) : Sp := fun vs H Q _ => ∃ (p : Addr) (a : List Int), vs = [.ref p] ∧ SqT K H p (vI a) ∧ a.length ≤ 1000 ∧ Q (.bl (SeatB a)) H
theorem len_is_seating (K : PySem.W.Frag) (g : Gd) (vs : List V) (H : Hp) (Q : VK) (E : XK) (h : sp_is_seating K g vs H Q E) : vs.length = 1 := by obtain ⟨_, _, rfl, _⟩ := h; rfl
abbrev N_is_seating : List Str := ["row", "k"]
/-- is_seating -/
def t_is_seating (K : PySem.W.Frag) (g : Gd) (E : XK) : TS :=
  (tSeq (tIfS (tOr (tTest (tOp rLtI (tCB (rLenQ K) (tCons (tVar 0) tNil)) (tC (.int 1)))) (tTest (tOp rGtI (tCB (rLenQ K) (tCons (tVar 0) tNil)) (tC (.int 16))))) (tRet (tC (.bl false))) tNext)
    (tSeq (tFor (iRng1 (tCons (tCB (rLenQ K) (tCons (tVar 0) tNil)) tNil)) (gName 1) (tIfS (tTest (tOp (rIn K true) (tVar 1) (tVar 0))) (tRet (tC (.bl false))) tNext))
    (tRet (tC (.bl true)))))
theorem seatB_no {a : List Int} (h : ¬ (1 ≤ a.length ∧ a.length ≤ 16)) : SeatB a = false := by
  unfold SeatB
  by_cases h1 : 1 ≤ a.length
  · rw [decide_eq_true h1, decide_eq_false (fun z => h ⟨h1, z⟩)] <;> rfl
  · rw [decide_eq_false h1] <;> rfl
theorem seatB_no' {a : List Int} {k : Nat} (hk : k < a.length) (h : ¬ (k : Int) ∈ a) : SeatB a = false := by
  unfold SeatB
  have : ((List.range a.length).all fun k => decide ((k : Int) ∈ a)) = false := by
    refine Bool.eq_false_iff.mpr fun z => h ?_
    exact of_decide_eq_true (List.all_eq_true.mp z k (List.mem_range.mpr hk))
  rw [this, Bool.and_false]
theorem seatB_yes {a : List Int} (h1 : 1 ≤ a.length) (h2 : a.length ≤ 16) (h : ∀ k, k < a.length → (k : Int) ∈ a) : SeatB a = true := by
  unfold SeatB
  rw [decide_eq_true h1, decide_eq_true h2]
  exact List.all_eq_true.mpr fun k hk => decide_eq_true (h k (List.mem_range.mp hk))
theorem pure_is_seating {K : PySem.W.Frag} {g : Gd} (vs : List V) (H : Hp) (Q : VK) (E : XK) (h : sp_is_seating K g vs H Q E) : Rd1 (t_is_seating K g E) N_is_seating vs H Q := by
  obtain ⟨p, a, rfl, h, hl, k⟩ := h
  unfold t_is_seating
  walk_at "rd"
  refine len_TI h ?_
  walk_at "rd"
  refine if_d (fun c => ?_) (fun c => ?_)
  · walk_at "rd"
    rw [seatB_no (by omega)] at k
    exact k
  walk_at "rd"
  refine len_TI h ?_
  walk_at "rd"
  refine if_d (fun c2 => ?_) (fun c2 => ?_)
  · walk_at "rd"
    rw [seatB_no (by omega)] at k
    exact k
  walk_at "rd"
  refine len_TI h ?_
  walk_at "rd"
  refine w_for1 (by omega) (fun i σ H' => (∃ v, σ = [some (.ref p), v]) ∧ H' = H ∧ ∀ j, j < i → (j : Int) ∈ a) ⟨⟨_, rfl⟩, rfl, fun j hj => absurd hj (Nat.not_lt_zero j)⟩ ?_ ?_
  · rintro i σ H' hi ⟨⟨v, rfl⟩, rfl, hall⟩
    walk_at "rd"
    refine notin_TI h ?_
    walk_at "rd"
    refine if_nd (fun m => ?_) (fun m => ?_)
    · walk_at "rd"
      rw [seatB_no' hi m] at k
      exact k
    · walk_at "rd"
      refine ⟨⟨_, rfl⟩, rfl, fun j hj => ?_⟩
      by_cases e : j = i
      · rw [e]; exact m
      · exact hall j (by omega)
  · rintro σ H' ⟨⟨v, rfl⟩, rfl, hall⟩
    walk_at "rd"
    rw [seatB_yes (by omega) (by omega) hall] at k
    exact k
def sp_ask_seating (K : PySem.W.Frag) (g : Gd) : Sp := fun vs H Q E => ∃ (p : Addr) (a : List Int), vs = [.ref p] ∧ SqT K H p (vI a) ∧ a.length ≤ 1000 ∧ (SeatB a = true → Q .non H) ∧ (SeatB a = false → E (.ref g.NoSeating) none H)
theorem len_ask_seating (K : PySem.W.Frag) (g : Gd) (vs : List V) (H : Hp) (Q : VK) (E : XK) (h : sp_ask_seating K g vs H Q E) : vs.length = 1 := by obtain ⟨_, _, rfl, _⟩ := h; rfl
abbrev N_ask_seating : List Str := ["a"]
/-- ask_seating -/
def t_ask_seating (K : PySem.W.Frag) (g : Gd) (E : XK) : TS :=
  (tIfS (tNot (tB (tCallS (sp_is_seating K g) (fun _ => E0) (tCons (tVar 0) tNil)))) (tRaiseW (wE E) g.NoSeating) tNext)
theorem pure_ask_seating {K : PySem.W.Frag} {g : Gd} (vs : List V) (H : Hp) (Q : VK) (E : XK) (h : sp_ask_seating K g vs H Q E) : Rd1 (t_ask_seating K g E) N_ask_seating vs H Q := by
  obtain ⟨p, a, rfl, h, hl, k, e⟩ := h
  unfold t_ask_seating
  walk_at "rd"
  refine ⟨p, a, rfl, h, hl, ?_⟩
  walk_at "rd"
  refine if_nb (fun c => e c) (fun c => k c)
def sp_ask_size (K : PySem.W.Frag) (g : Gd) : Sp := fun vs H Q E => ∃ n : Int, vs = [.int n] ∧ (1 ≤ n ∧ n ≤ 16 → Q .non H) ∧ (¬ (1 ≤ n ∧ n ≤ 16) → E (.ref g.NoSize) none H)
theorem len_ask_size (K : PySem.W.Frag) (g : Gd) (vs : List V) (H : Hp) (Q : VK) (E : XK) (h : sp_ask_size K g vs H Q E) : vs.length = 1 := by obtain ⟨_, rfl, _⟩ := h; rfl
abbrev N_ask_size : List Str := ["size"]
/-- ask_size -/
def t_ask_size (K : PySem.W.Frag) (g : Gd) (E : XK) : TS :=
  (tIfS (tOr (tTest (tOp rLtI (tVar 0) (tC (.int 1)))) (tTest (tOp rGtI (tVar 0) (tC (.int 16))))) (tRaiseW (wE E) g.NoSize) tNext)
theorem pure_ask_size {K : PySem.W.Frag} {g : Gd} (vs : List V) (H : Hp) (Q : VK) (E : XK) (h : sp_ask_size K g vs H Q E) : Rd1 (t_ask_size K g E) N_ask_size vs H Q := by
  obtain ⟨n, rfl, k, e⟩ := h
  unfold t_ask_size
  walk_at "rd"
  refine if_d (fun c => ?_) (fun c => ?_)
  · walk_at "rd"
    exact e (by omega)
  walk_at "rd"
  refine if_d (fun c2 => ?_) (fun c2 => ?_)
  · exact e (by omega)
  · exact k (by omega)
def sp_rest (K : PySem.W.Frag) (g : Gd) : Sp := fun vs H Q E => ∃ n : Int, vs = [.int n] ∧ (1 ≤ n ∧ n ≤ 16 → NewT H (List.range n.toNat) Q) ∧ (¬ (1 ≤ n ∧ n ≤ 16) → E (.ref g.NoSize) none H)
theorem len_rest (K : PySem.W.Frag) (g : Gd) (vs : List V) (H : Hp) (Q : VK) (E : XK) (h : sp_rest K g vs H Q E) : vs.length = 1 := by obtain ⟨_, rfl, _⟩ := h; rfl
abbrev N_rest : List Str := ["size"]
/-- rest -/
def t_rest (K : PySem.W.Frag) (g : Gd) (E : XK) : TS :=
  (tSeq (tDrop (tCallS (sp_ask_size K g) (WE (wE E)) (tCons (tVar 0) tNil)))
    (tRet (tTupRg (tRg1 (tVar 0)))))
theorem pure_rest {K : PySem.W.Frag} {g : Gd} (vs : List V) (H : Hp) (Q : VK) (E : XK) (h : sp_rest K g vs H Q E) : Rd1 (t_rest K g E) N_rest vs H Q := by
  obtain ⟨n, rfl, k, e⟩ := h
  unfold t_rest
  walk_at "rd"
  refine ⟨n, rfl, fun c => ?_, e⟩
  obtain ⟨m, rfl⟩ : ∃ m : Nat, n = (m : Int) := ⟨n.toNat, by omega⟩
  walk_at "rd"
  refine ⟨rgOk_N (by omega), fun r hr => ?_⟩
  exact k c r _ ((Same.refl H).new hr) hr (by rw [upd_same, rgV_N] <;> rfl)
theorem erase_perm {α : Type} : ∀ {l : List α} {i : Nat} (h : i < l.length), (l[i] :: l.eraseIdx i).Perm l
  | [], _, h => absurd h (Nat.not_lt_zero _)
  | _ :: _, 0, _ => List.Perm.refl _
  | a :: l, i + 1, h => by
    have h' : i < l.length := Nat.lt_of_succ_lt_succ h
    have ih := erase_perm (l := l) (i := i) h'
    show (l[i] :: a :: l.eraseIdx i).Perm (a :: l)
    exact (List.Perm.swap a l[i] _).trans (List.Perm.cons a ih)
/-- drawing: the i-th of what is left, put behind what is drawn -/
theorem draw_perm {left row : List Nat} {i : Nat} (h : i < left.length) : ((row ++ [left.getD i 0]) ++ left.eraseIdx i).Perm (row ++ left) := by
  rw [List.append_assoc]
  refine List.Perm.append_left row ?_
  have e : left.getD i 0 = left[i] := by rw [List.getD_eq_getElem?_getD, List.getElem?_eq_getElem h] <;> rfl
  rw [e]
  exact erase_perm h
def drawStep (n : Nat) (f : Int → Int) (d : Int → Int → Int) (s : Int × List Nat × List Nat) (k : Nat) : Int × List Nat × List Nat :=
  let c := f s.1
  let m : Int := (n : Int) - (k : Int)
  (d c m, s.2.1.eraseIdx (c % m).toNat, s.2.2 ++ [s.2.1.getD (c % m).toNat 0])
def drawSt (n : Nat) (f : Int → Int) (d : Int → Int → Int) (c : Int) (k : Nat) : Int × List Nat × List Nat := (List.range k).foldl (drawStep n f d) (c, List.range n, [])
theorem drawSt_succ (n : Nat) (f : Int → Int) (d : Int → Int → Int) (c : Int) (k : Nat) : drawSt n f d c (k + 1) = drawStep n f d (drawSt n f d c k) k := by
  unfold drawSt
  rw [List.range_succ, List.foldl_append] <;> rfl
theorem drawSt_ok (n : Nat) (f : Int → Int) (d : Int → Int → Int) (c : Int) : ∀ k, k ≤ n → (drawSt n f d c k).2.1.length = n - k ∧ (drawSt n f d c k).2.2.length = k ∧ ((drawSt n f d c k).2.2 ++ (drawSt n f d c k).2.1).Perm (List.range n)
  | 0, _ => ⟨List.length_range, rfl, List.Perm.refl _⟩
  | k + 1, hk => by
    obtain ⟨h1, h2, h3⟩ := drawSt_ok n f d c k (by omega)
    rw [drawSt_succ]
    have hm : (0 : Int) < (n : Int) - (k : Int) := by omega
    have hi : ((f (drawSt n f d c k).1) % ((n : Int) - (k : Int))).toNat < (drawSt n f d c k).2.1.length := by
      have a := Int.emod_nonneg (f (drawSt n f d c k).1) (Int.ne_of_gt hm)
      have b := Int.emod_lt_of_pos (f (drawSt n f d c k).1) hm
      omega
    refine ⟨?_, ?_, (draw_perm hi).trans h3⟩
    · show (List.eraseIdx _ _).length = _
      rw [List.length_eraseIdx_of_lt hi, h1]; omega
    · show (_ ++ [_]).length = _
      rw [List.length_append, h2]; rfl
theorem drawSt_perm (n : Nat) (f : Int → Int) (d : Int → Int → Int) (c : Int) : IsP n (drawSt n f d c n).2.2 := by
  obtain ⟨h1, h2, h3⟩ := drawSt_ok n f d c n (Nat.le_refl n)
  have e : (drawSt n f d c n).2.1 = [] := List.length_eq_zero_iff.mp (by omega)
  rw [e, List.append_nil] at h3
  exact h3
/-- any seating of n by a cell -/
def seatN (c : Int) (n : Nat) : List Nat := (drawSt n (fun c => c) (fun c m => c / m) c n).2.2
/-- .. by a cell mixed -/
def farN (c : Int) (n : Nat) : List Nat := (drawSt n (fun c => (c * 48271 + 11) % 2147483647) (fun c _ => c) c n).2.2
theorem isP_seat (c : Int) (n : Nat) : IsP n (seatN c n) := drawSt_perm _ _ _ _
theorem isP_far (c : Int) (n : Nat) : IsP n (farN c n) := drawSt_perm _ _ _ _
def sp_L_seating (K : PySem.W.Frag) (g : Gd) : Sp := fun vs H Q _ => ∃ (c : Int) (n : Nat), vs = [.int c, .int (n : Int)] ∧ n ≤ 1000 ∧ NewT H (seatN c n) Q
theorem len_L_seating (K : PySem.W.Frag) (g : Gd) (vs : List V) (H : Hp) (Q : VK) (E : XK) (h : sp_L_seating K g vs H Q E) : vs.length = 2 := by obtain ⟨_, _, rfl, _⟩ := h; rfl
abbrev N_L_seating : List Str := ["cell", "size", "left", "row", "k"]
/-- _law_seating -/
def t_L_seating (K : PySem.W.Frag) (g : Gd) (E : XK) : TS :=
  (tSeq (tAsg (tLstRg (tRg1 (tVar 1))) (gName 2))
    (tSeq (tAsg (tLst tNil) (gName 3))
    (tSeq (tFor (iRng1 (tCons (tVar 1) tNil)) (gName 4) (tSeq (tDrop (tBM K "list" rAppend (tVar 3) (tCons (tBM K "list" rPopAt (tVar 2) (tCons (tOp rModI (tVar 0) (tOp rSubI (tVar 1) (tVar 4))) tNil)) tNil)))
    (tAsg (tOp rDivI (tVar 0) (tOp rSubI (tVar 1) (tVar 4))) (gName 0))))
    (tRet (tCB (rTupOf K) (tCons (tVar 3) tNil))))))
theorem pure_L_seating {K : PySem.W.Frag} {g : Gd} (vs : List V) (H : Hp) (Q : VK) (E : XK) (h : sp_L_seating K g vs H Q E) : Rd1 (t_L_seating K g E) N_L_seating vs H Q := by
  obtain ⟨c, n, rfl, hn, k⟩ := h
  unfold t_L_seating
  walk_at "rd"
  refine ⟨rgOk_N (by omega), fun l hl => ?_⟩
  rw [rgV_N]
  have s1 : Same H (upd H l (.lst (vN (List.range n)))) := (Same.refl H).new hl
  walk_at "rd"
  refine ⟨zl (Nat.zero_le _), fun r hr => ?_⟩
  have hr0 := s1.free hr
  have s2 := s1.new (o := .lst []) hr
  have hlr : l ≠ r := ne_of_none upd_same hr
  walk_at "rd"
  refine w_for1 (by omega) (fun i σ H' => (∃ v, σ = [some (.int (drawSt n (fun c => c) (fun c m => c / m) c i).1), some (.int (n : Int)), some (.ref l), some (.ref r), v]) ∧ Same H H' ∧
    H' l = some (.lst (vN (drawSt n (fun c => c) (fun c m => c / m) c i).2.1)) ∧ H' r = some (.lst (vN (drawSt n (fun c => c) (fun c m => c / m) c i).2.2))) ⟨⟨_, rfl⟩, s2, by rw [upd_ne hlr, upd_same] <;> rfl, upd_same⟩ ?_ ?_
  · rintro i σ H' hi ⟨⟨v, rfl⟩, s, hL, hR⟩
    have ok := drawSt_ok n (fun c => c) (fun c m => c / m) c i (by omega)
    have hst := drawSt_succ n (fun c => c) (fun c m => c / m) c i
    generalize drawSt n (fun c => c) (fun c m => c / m) c i = st at ok hst hL hR ⊢
    obtain ⟨c1, left, row⟩ := st
    obtain ⟨o1, o2, _⟩ := ok
    dsimp only at o1 o2 hL hR ⊢
    rw [hst]
    have hm : (0 : Int) < (n : Int) - (i : Int) := by omega
    have b1 := Int.emod_nonneg c1 (Int.ne_of_gt hm)
    have b2 := Int.emod_lt_of_pos c1 hm
    walk_at "rd"
    refine ⟨isL (sqL hR), ?_⟩
    walk_at "rd"
    refine ⟨isL (sqL hL), ?_⟩
    walk_at "rd"
    refine mod_I hm ?_
    walk_at "rd"
    refine pop_N (i := (c1 % ((n : Int) - (i : Int))).toNat) hL (by omega) (by omega) (by omega) ?_
    walk_at "rd"
    refine app_N (a := row) (by rw [upd_ne hlr.symm]; exact hR) (by omega) ?_
    walk_at "rd"
    refine div_I hm (by omega) ?_
    refine ⟨⟨_, rfl⟩, (s.up hl).up hr0, ?_, upd_same⟩
    rw [upd_ne hlr, upd_same] <;> rfl
  · rintro σ H' ⟨⟨v, rfl⟩, s, hL, hR⟩
    walk_at "rd"
    exact tup_L (sqL hR) fun q hq => k q _ (s.new hq) (s.free hq) upd_same
def sp_L_far (K : PySem.W.Frag) (g : Gd) : Sp := fun vs H Q _ => ∃ (c : Int) (n : Nat), vs = [.int c, .int (n : Int)] ∧ n ≤ 1000 ∧ NewT H (farN c n) Q
theorem len_L_far (K : PySem.W.Frag) (g : Gd) (vs : List V) (H : Hp) (Q : VK) (E : XK) (h : sp_L_far K g vs H Q E) : vs.length = 2 := by obtain ⟨_, _, rfl, _⟩ := h; rfl
abbrev N_L_far : List Str := ["cell", "size", "left", "row", "k"]
/-- _law_far -/
def t_L_far (K : PySem.W.Frag) (g : Gd) (E : XK) : TS :=
  (tSeq (tAsg (tLstRg (tRg1 (tVar 1))) (gName 2))
    (tSeq (tAsg (tLst tNil) (gName 3))
    (tSeq (tFor (iRng1 (tCons (tVar 1) tNil)) (gName 4) (tSeq (tAsg (tOp rModI (tOp rAddI (tOp rMulI (tVar 0) (tC (.int 48271))) (tC (.int 11))) (tC (.int 2147483647))) (gName 0))
    (tDrop (tBM K "list" rAppend (tVar 3) (tCons (tBM K "list" rPopAt (tVar 2) (tCons (tOp rModI (tVar 0) (tOp rSubI (tVar 1) (tVar 4))) tNil)) tNil)))))
    (tRet (tCB (rTupOf K) (tCons (tVar 3) tNil))))))
theorem pure_L_far {K : PySem.W.Frag} {g : Gd} (vs : List V) (H : Hp) (Q : VK) (E : XK) (h : sp_L_far K g vs H Q E) : Rd1 (t_L_far K g E) N_L_far vs H Q := by
  obtain ⟨c, n, rfl, hn, k⟩ := h
  unfold t_L_far
  walk_at "rd"
  refine ⟨rgOk_N (by omega), fun l hl => ?_⟩
  rw [rgV_N]
  have s1 : Same H (upd H l (.lst (vN (List.range n)))) := (Same.refl H).new hl
  walk_at "rd"
  refine ⟨zl (Nat.zero_le _), fun r hr => ?_⟩
  have hr0 := s1.free hr
  have s2 := s1.new (o := .lst []) hr
  have hlr : l ≠ r := ne_of_none upd_same hr
  walk_at "rd"
  refine w_for1 (by omega) (fun i σ H' => (∃ v, σ = [some (.int (drawSt n (fun c => (c * 48271 + 11) % 2147483647) (fun c _ => c) c i).1), some (.int (n : Int)), some (.ref l), some (.ref r), v]) ∧ Same H H' ∧
    H' l = some (.lst (vN (drawSt n (fun c => (c * 48271 + 11) % 2147483647) (fun c _ => c) c i).2.1)) ∧ H' r = some (.lst (vN (drawSt n (fun c => (c * 48271 + 11) % 2147483647) (fun c _ => c) c i).2.2))) ⟨⟨_, rfl⟩, s2, by rw [upd_ne hlr, upd_same] <;> rfl, upd_same⟩ ?_ ?_
  · rintro i σ H' hi ⟨⟨v, rfl⟩, s, hL, hR⟩
    have ok := drawSt_ok n (fun c => (c * 48271 + 11) % 2147483647) (fun c _ => c) c i (by omega)
    have hst := drawSt_succ n (fun c => (c * 48271 + 11) % 2147483647) (fun c _ => c) c i
    generalize drawSt n (fun c => (c * 48271 + 11) % 2147483647) (fun c _ => c) c i = st at ok hst hL hR ⊢
    obtain ⟨c1, left, row⟩ := st
    obtain ⟨o1, o2, _⟩ := ok
    dsimp only at o1 o2 hL hR ⊢
    rw [hst]
    have hm : (0 : Int) < (n : Int) - (i : Int) := by omega
    have b1 := Int.emod_nonneg ((c1 * 48271 + 11) % 2147483647) (Int.ne_of_gt hm)
    have b2 := Int.emod_lt_of_pos ((c1 * 48271 + 11) % 2147483647) hm
    walk_at "rd"
    refine mul_I (.inr ⟨by decide, by decide⟩) ?_
    walk_at "rd"
    refine mod_I (by decide) ?_
    walk_at "rd"
    refine ⟨isL (sqL hR), ?_⟩
    walk_at "rd"
    refine ⟨isL (sqL hL), ?_⟩
    walk_at "rd"
    refine mod_I hm ?_
    walk_at "rd"
    refine pop_N (i := (((c1 * 48271 + 11) % 2147483647) % ((n : Int) - (i : Int))).toNat) hL (by omega) (by omega) (by omega) ?_
    walk_at "rd"
    refine app_N (a := row) (by rw [upd_ne hlr.symm]; exact hR) (by omega) ?_
    refine ⟨⟨_, rfl⟩, (s.up hl).up hr0, ?_, upd_same⟩
    rw [upd_ne hlr, upd_same] <;> rfl
  · rintro σ H' ⟨⟨v, rfl⟩, s, hL, hR⟩
    walk_at "rd"
    exact tup_L (sqL hR) fun q hq => k q _ (s.new hq) (s.free hq) upd_same
def sp_L_same (K : PySem.W.Frag) (g : Gd) : Sp := fun vs H Q _ => ∃ (p q : Addr) (a b : List Nat), vs = [.ref p, .ref q] ∧ H p = some (.tup (vN a)) ∧ SqT K H q (vN b) ∧ Q (.bl (decide (a = b))) H
theorem len_L_same (K : PySem.W.Frag) (g : Gd) (vs : List V) (H : Hp) (Q : VK) (E : XK) (h : sp_L_same K g vs H Q E) : vs.length = 2 := by obtain ⟨_, _, _, _, rfl, _⟩ := h; rfl
abbrev N_L_same : List Str := ["found", "due", "x"]
/-- _law_same -/
def t_L_same (K : PySem.W.Frag) (g : Gd) (E : XK) : TS :=
  (tSeq (tIfS (tOr (tNot (tB (tCB (rIsi K) (tCons (tVar 0) (tCons (tC (.ty "tuple")) tNil))))) (tTest (tOp rNe (tCB (rLenQ K) (tCons (tVar 0) tNil)) (tCB (rLenQ K) (tCons (tVar 1) tNil))))) (tRet (tC (.bl false))) tNext)
    (tSeq (tFor (iTup K (tVar 0)) (gName 2) (tIfS (tNot (tB (tCallS (sp_L_whole K g) (fun _ => E0) (tCons (tVar 2) tNil)))) (tRet (tC (.bl false))) tNext))
    (tRet (tOp (rEqD K) (tVar 0) (tVar 1)))))
theorem pure_L_same {K : PySem.W.Frag} {g : Gd} (vs : List V) (H : Hp) (Q : VK) (E : XK) (h : sp_L_same K g vs H Q E) : Rd1 (t_L_same K g E) N_L_same vs H Q := by
  obtain ⟨p, q, a, b, rfl, hp, hq, k⟩ := h
  unfold t_L_same
  walk_at "rd"
  refine is_tup hp ?_
  walk_at "rd"
  refine if_nb (fun c => by cases c) (fun _ => ?_)
  walk_at "rd"
  refine len_TN (sqT hp) ?_
  walk_at "rd"
  refine len_TN hq ?_
  walk_at "rd"
  refine if_nd (fun c => ?_) (fun c => ?_)
  · walk_at "rd"
    rw [decide_eq_false (fun z => c (by rw [z]))] at k
    exact k
  walk_at "rd"
  refine ⟨p, rfl, ⟨_, sqT hp⟩, for_tup (K := K) (a := p) (xs := vN a) (fun i σ H' => (∃ v, σ = [some (.ref p), some (.ref q), v]) ∧ H' = H) ⟨⟨_, rfl⟩, rfl⟩ (fun i σ H' _ s => by rw [s.2]; exact sqT hp) ?_ ?_⟩
  · rintro i x σ H' hi ⟨⟨v, rfl⟩, rfl⟩
    obtain ⟨m, _, rfl⟩ := vN_get hi
    refine (?_ : (tIfS _ _ _) _ _ _)
    walk_at "rd"
    refine ⟨_, rfl, ?_⟩
    walk_at "rd"
    exact if_nb (fun c => by cases c) (fun _ => ⟨⟨_, rfl⟩, rfl⟩)
  · rintro σ H' ⟨⟨v, rfl⟩, rfl⟩
    walk_at "rd"
    exact eq_TN (sqT hp) hq k
end Shf

/-! law k01 -/
namespace Shf
open PySem L2
theorem size16 (z : Int) : ∃ n : Nat, 1 + z % 16 = (n : Int) ∧ 1 ≤ n ∧ n ≤ 16 := by
  have a := Int.emod_nonneg z (b := 16) (by decide)
  have b := Int.emod_lt_of_pos z (b := 16) (by decide)
  exact ⟨(1 + z % 16).toNat, by omega, by omega, by omega⟩
end Shf

/-! rings of a seating: mathematics, rings, even; the laws' rings -/
namespace Shf
open PySem L2
/-! ### steps of a seating from a seat -/
def itr (a : List Nat) : Nat → Nat → Nat
  | 0, x => x
  | j + 1, x => a.getD (itr a j x) 0
section
variable {n : Nat} {a : List Nat}
theorem itr_lt (h : IsP n a) {x : Nat} (hx : x < n) : ∀ j, itr a j x < n
  | 0 => hx
  | j + 1 => h.getD_lt (itr_lt h hx j)
theorem itr_add (a : List Nat) (x : Nat) (j : Nat) : ∀ i, itr a (i + j) x = itr a i (itr a j x)
  | 0 => by rw [Nat.zero_add] <;> rfl
  | i + 1 => by
    rw [Nat.add_right_comm]
    show a.getD (itr a (i + j) x) 0 = a.getD (itr a i (itr a j x)) 0
    rw [itr_add a x j i]
theorem itr_inj (h : IsP n a) {x y : Nat} (hx : x < n) (hy : y < n) : ∀ j, itr a j x = itr a j y → x = y
  | 0, e => e
  | j + 1, e => by
    refine itr_inj h hx hy j ?_
    exact nd_getD h.nd (by rw [h.len]; exact itr_lt h hx j) (by rw [h.len]; exact itr_lt h hy j) e
theorem itr_back (h : IsP n a) {k : Nat} (hk : k < n) {i j : Nat} (hij : i ≤ j) (e : itr a i k = itr a j k) : itr a (j - i) k = k := by
  have e1 : itr a j k = itr a i (itr a (j - i) k) := by
    rw [← itr_add, Nat.add_comm, Nat.sub_add_cancel hij]
  rw [e1] at e
  exact (itr_inj h hk (itr_lt h hk _) i e).symm
theorem itr_ret (h : IsP n a) {k : Nat} (hk : k < n) : ∃ p, 1 ≤ p ∧ p ≤ n ∧ itr a p k = k := by
  refine Classical.byContradiction fun no => ?_
  have nd : ((List.range (n + 1)).map fun j => itr a j k).Nodup := by
    refine nd_of_getD fun i j hi hj e => ?_
    rw [List.length_map, List.length_range] at hi hj
    have g : ∀ i, i < n + 1 → ((List.range (n + 1)).map fun j => itr a j k).getD i 0 = itr a i k := fun i hi => by
      rw [List.getD_eq_getElem?_getD, List.getElem?_map, List.getElem?_range hi] <;> rfl
    rw [g i hi, g j hj] at e
    refine Decidable.byContradiction fun ne => ?_
    rcases Nat.lt_or_gt_of_ne ne with l | l
    · exact no ⟨j - i, by omega, by omega, itr_back h hk (Nat.le_of_lt l) e⟩
    · exact no ⟨i - j, by omega, by omega, itr_back h hk (Nat.le_of_lt l) e.symm⟩
  have hl := nd_sub_len (m := List.range n) nd fun x hx => by
    obtain ⟨j, _, rfl⟩ := List.mem_map.mp hx
    exact List.mem_range.mpr (itr_lt h hk j)
  rw [List.length_map, List.length_range, List.length_range] at hl
  omega
/-- the least number of steps, from j on, that comes back to k -/
def perF (a : List Nat) (k : Nat) : Nat → Nat → Nat
  | 0, j => j
  | f + 1, j => if itr a j k = k then j else perF a k f (j + 1)
theorem perF_spec (a : List Nat) (k : Nat) : ∀ f j p, j ≤ p → p ≤ j + f → itr a p k = k → itr a (perF a k f j) k = k ∧ j ≤ perF a k f j ∧ (∀ q, j ≤ q → q < perF a k f j → itr a q k ≠ k) ∧ perF a k f j ≤ p
  | 0, j, p, h1, h2, e => by
    have : p = j := by omega
    subst this
    exact ⟨e, Nat.le_refl _, fun q a b => absurd b (Nat.not_lt.mpr a), Nat.le_refl _⟩
  | f + 1, j, p, h1, h2, e => by
    unfold perF
    by_cases c : itr a j k = k
    · rw [if_pos c]
      exact ⟨c, Nat.le_refl _, fun q a b => absurd b (Nat.not_lt.mpr a), h1⟩
    · rw [if_neg c]
      have hne : p ≠ j := fun z => c (z ▸ e)
      obtain ⟨g1, g2, g3, g4⟩ := perF_spec a k f (j + 1) p (by omega) (by omega) e
      refine ⟨g1, by omega, fun q hq hl => ?_, g4⟩
      by_cases z : q = j
      · rw [z]; exact c
      · exact g3 q (by omega) hl
def per (a : List Nat) (k : Nat) : Nat := perF a k a.length 1
theorem per_spec (h : IsP n a) {k : Nat} (hk : k < n) : itr a (per a k) k = k ∧ 1 ≤ per a k ∧ (∀ q, 1 ≤ q → q < per a k → itr a q k ≠ k) ∧ per a k ≤ n := by
  obtain ⟨p, h1, h2, e⟩ := itr_ret h hk
  obtain ⟨g1, g2, g3, g4⟩ := perF_spec a k a.length 1 p h1 (by rw [h.len]; omega) e
  exact ⟨g1, g2, g3, Nat.le_trans g4 h2⟩
/-- the ring of a seat, from it on -/
def ring (a : List Nat) (k : Nat) : List Nat := (List.range (per a k)).map fun j => itr a j k
theorem ring_len (a : List Nat) (k : Nat) : (ring a k).length = per a k := by unfold ring; rw [List.length_map, List.length_range]
theorem itr_mul (h : IsP n a) {k : Nat} (hk : k < n) : ∀ m, itr a (m * per a k) k = k
  | 0 => by rw [Nat.zero_mul] <;> rfl
  | m + 1 => by rw [Nat.succ_mul, itr_add, (per_spec h hk).1, itr_mul h hk m]
theorem mem_ring (h : IsP n a) {k : Nat} (hk : k < n) (j : Nat) : itr a j k ∈ ring a k := by
  have hp := (per_spec h hk).2.1
  have e : itr a j k = itr a (j % per a k) k := by
    conv => lhs; rw [← Nat.div_add_mod j (per a k), Nat.add_comm, itr_add, Nat.mul_comm, itr_mul h hk]
  rw [e]
  exact List.mem_map.mpr ⟨j % per a k, List.mem_range.mpr (Nat.mod_lt _ hp), rfl⟩
theorem ring_mem {k x : Nat} (h : x ∈ ring a k) : ∃ j, j < per a k ∧ itr a j k = x := by
  obtain ⟨j, hj, e⟩ := List.mem_map.mp h
  exact ⟨j, List.mem_range.mp hj, e⟩
theorem ring_lt (h : IsP n a) {k x : Nat} (hk : k < n) (hx : x ∈ ring a k) : x < n := by
  obtain ⟨j, _, rfl⟩ := ring_mem hx
  exact itr_lt h hk j
theorem ring_self (h : IsP n a) {k : Nat} (hk : k < n) : k ∈ ring a k := mem_ring h hk 0
theorem ring_symm (h : IsP n a) {k x : Nat} (hk : k < n) (hx : x ∈ ring a k) : k ∈ ring a x := by
  obtain ⟨j, hj, rfl⟩ := ring_mem hx
  have e : itr a (per a k - j) (itr a j k) = k := by rw [← itr_add, Nat.sub_add_cancel (Nat.le_of_lt hj)]; exact (per_spec h hk).1
  have := mem_ring h (itr_lt h hk j) (per a k - j)
  rw [e] at this
  exact this
theorem ring_trans (h : IsP n a) {k x y : Nat} (hk : k < n) (hx : x ∈ ring a k) (hy : y ∈ ring a x) : y ∈ ring a k := by
  obtain ⟨j, _, rfl⟩ := ring_mem hx
  obtain ⟨i, _, rfl⟩ := ring_mem hy
  rw [← itr_add]
  exact mem_ring h hk _
theorem ring_nd (h : IsP n a) {k : Nat} (hk : k < n) : (ring a k).Nodup := by
  obtain ⟨_, h1, h2, _⟩ := per_spec h hk
  refine nd_of_getD fun i j hi hj e => ?_
  rw [ring_len] at hi hj
  have g : ∀ i, i < per a k → (ring a k).getD i 0 = itr a i k := fun i hi => by
    unfold ring
    rw [List.getD_eq_getElem?_getD, List.getElem?_map, List.getElem?_range hi] <;> rfl
  rw [g i hi, g j hj] at e
  refine Decidable.byContradiction fun ne => ?_
  rcases Nat.lt_or_gt_of_ne ne with l | l
  · exact h2 (j - i) (by omega) (by omega) (itr_back h hk (Nat.le_of_lt l) e)
  · exact h2 (i - j) (by omega) (by omega) (itr_back h hk (Nat.le_of_lt l) e.symm)
/-- k is the least of its ring -/
def isMin (a : List Nat) (k : Nat) : Bool := (ring a k).all fun x => decide (k ≤ x)
theorem isMin_iff {k : Nat} : isMin a k = true ↔ ∀ x ∈ ring a k, k ≤ x := by
  unfold isMin
  rw [List.all_eq_true]
  exact ⟨fun h x hx => of_decide_eq_true (h x hx), fun h x hx => decide_eq_true (h x hx)⟩
/-- a list of numbers has a least -/
theorem least_of : ∀ (l : List Nat), l ≠ [] → ∃ m ∈ l, ∀ x ∈ l, m ≤ x
  | [], h => absurd rfl h
  | [x], _ => ⟨x, List.mem_singleton.mpr rfl, fun y hy => by rw [List.mem_singleton.mp hy]; exact Nat.le_refl _⟩
  | x :: y :: r, _ => by
    obtain ⟨m, hm, hl⟩ := least_of (y :: r) (by simp)
    by_cases c : x ≤ m
    · exact ⟨x, List.mem_cons_self, fun z hz => by
        rcases List.mem_cons.mp hz with e | hz
        · rw [e]; exact Nat.le_refl _
        · exact Nat.le_trans c (hl z hz)⟩
    · exact ⟨m, List.mem_cons_of_mem _ hm, fun z hz => by
        rcases List.mem_cons.mp hz with e | hz
        · rw [e]; omega
        · exact hl z hz⟩
/-- some ring that starts below k holds k beyond its start: just where k is not the least of its own -/
def SeenP (a : List Nat) (k x : Nat) : Prop := ∃ q, q < k ∧ isMin a q = true ∧ x ∈ ring a q ∧ x ≠ q
theorem seen_iff (h : IsP n a) {k : Nat} (hk : k < n) : SeenP a k k ↔ isMin a k = false := by
  constructor
  · rintro ⟨q, hq, _, hx, _⟩
    refine Bool.eq_false_iff.mpr fun z => ?_
    have := isMin_iff.mp z q (ring_symm h (by omega) hx)
    omega
  · intro z
    obtain ⟨m, hm, hl⟩ := least_of (ring a k) (fun e => by have := ring_self h hk; rw [e] at this; cases this)
    have hmn := ring_lt h hk hm
    have hmk : m ≠ k := fun e => by
      have : isMin a k = true := isMin_iff.mpr (fun x hx => by rw [← e]; exact hl x hx)
      rw [this] at z; cases z
    have hle := hl k (ring_self h hk)
    refine ⟨m, by omega, isMin_iff.mpr fun x hx => hl x (ring_trans h hk hm hx), ring_symm h hk hm, fun e => hmk e.symm⟩
/-- the rings of two seats or more whose first seats lie below m -/
def ringsK (a : List Nat) (m : Nat) : List (List Nat) := ((List.range m).filter fun k => isMin a k && decide (1 < per a k)).map (ring a)
def ringsN (a : List Nat) : List (List Nat) := ringsK a a.length
theorem ringsK_succ (a : List Nat) (m : Nat) : ringsK a (m + 1) = ringsK a m ++ (if isMin a m && decide (1 < per a m) then [ring a m] else []) := by
  unfold ringsK
  rw [List.range_succ, List.filter_append, List.map_append]
  congr 1
  by_cases c : (isMin a m && decide (1 < per a m)) = true
  · rw [List.filter_cons, if_pos c, if_pos c] <;> rfl
  · rw [List.filter_cons, if_neg c, if_neg c] <;> rfl
theorem ringsK_len (a : List Nat) : ∀ m, (ringsK a m).length ≤ m
  | m => by
    unfold ringsK
    rw [List.length_map]
    have := List.length_filter_le (fun k => isMin a k && decide (1 < per a k)) (List.range m)
    rw [List.length_range] at this
    exact this
end
/-! ### a list of tuples of numbers -/
inductive LT (H : Hp) : List V → List (List Nat) → Prop
  | nil : LT H [] []
  | cons {p : Addr} {a : List Nat} {vs : List V} {as : List (List Nat)} : H p = some (.tup (vN a)) → LT H vs as → LT H (.ref p :: vs) (a :: as)
theorem LT.mono {H H' : Hp} (s : Same H H') {vs : List V} {as : List (List Nat)} (h : LT H vs as) : LT H' vs as := by
  induction h with
  | nil => exact .nil
  | cons h _ ih => exact .cons (s _ _ h) ih
theorem LT.snoc {H : Hp} {p : Addr} {a : List Nat} (hp : H p = some (.tup (vN a))) {vs : List V} {as : List (List Nat)} (h : LT H vs as) : LT H (vs ++ [.ref p]) (as ++ [a]) := by
  induction h with
  | nil => exact .cons hp .nil
  | cons h _ ih => exact .cons h ih
theorem LT.len {H : Hp} {vs : List V} {as : List (List Nat)} (h : LT H vs as) : vs.length = as.length := by
  induction h with
  | nil => rfl
  | cons _ _ ih => simp [ih]
theorem LT.get {H : Hp} {vs : List V} {as : List (List Nat)} (h : LT H vs as) : ∀ {i : Nat} {a : List Nat}, as[i]? = some a → ∃ p, vs[i]? = some (.ref p) ∧ H p = some (.tup (vN a)) := by
  induction h with
  | nil => intro i a e; simp at e
  | cons h _ ih =>
    intro i a e
    cases i with
    | zero => cases e; exact ⟨_, rfl, h⟩
    | succ i => exact ih (by simpa using e)
theorem LT.get' {H : Hp} {vs : List V} {as : List (List Nat)} (h : LT H vs as) : ∀ {i : Nat} {v : V}, vs[i]? = some v → ∃ p a, v = .ref p ∧ as[i]? = some a ∧ H p = some (.tup (vN a)) := by
  induction h with
  | nil => intro i a e; simp at e
  | cons h _ ih =>
    intro i a e
    cases i with
    | zero => cases e; exact ⟨_, _, rfl, rfl, h⟩
    | succ i => exact ih (by simpa using e)
theorem upd_list_same {H H' : Hp} {p : Addr} {o : HO} (s : Same H H') (h : H p = none) : Same H (upd H' p o) := s.up h
/-- what changes is no tuple: the tuples stand -/
theorem LT.upL {H : Hp} {l : Addr} {xs : List V} {o : HO} (hl : H l = some (.lst xs)) {vs : List V} {as : List (List Nat)} (h : LT H vs as) : LT (L2.upd H l o) vs as := by
  induction h with
  | nil => exact .nil
  | cons h _ ih => exact .cons (by rw [upd_ne (ne_of h hl (by intro z; cases z))]; exact h) ih
theorem LT.updD {H : Hp} {l : Addr} {xs : List (Key × V)} {o : HO} (hl : H l = some (.dK xs)) {vs : List V} {as : List (List Nat)} (h : LT H vs as) : LT (L2.upd H l o) vs as := by
  induction h with
  | nil => exact .nil
  | cons h _ ih => exact .cons (by rw [upd_ne (ne_of h hl (by intro z; cases z))]; exact h) ih
/-- a new list of tuples is handed back -/
def NewLT (H : Hp) (as : List (List Nat)) (Q : VK) : Prop := ∀ (r : Addr) (H' : Hp) (vs : List V), Same H H' → H r = none → H' r = some (.lst vs) → LT H' vs as → Q (.ref r) H'
theorem w_while {c : TT} {tb : TS} {D : Ends} {σ : L2.St} {H : Hp} (h : ∃ W : Nat → L2.St → Hp → Prop, (∃ m, W m σ H) ∧ ∀ m σ H, W m σ H →
  c σ H fun b H1 => if b = true then ∃ N : L2.St → Hp → Prop, (∀ σ' H', N σ' H' → ∃ m', m' < m ∧ W m' σ' H') ∧ tb { D with nx := N, ct := N, bk := D.nx } σ H1 else D.nx σ H1) : tWhile c tb D σ H := h
theorem w_dnew {σ : L2.St} {H : Hp} {Q : VK} (h : ∀ p, H p = none → Q (.ref p) (upd H p (.dK []))) : tDNewK σ H Q := h
theorem w_dput {td ty tv : TE} {D : Ends} {σ : L2.St} {H : Hp} (h : tv σ H fun v H1 => td σ H1 fun x H2 => ty σ H2 fun y H3 => ∃ a H4, x = .ref a ∧ DPut H3 a y v H4 ∧ D.nx σ H4) : sDPut td ty tv D σ H := h
theorem w_dnotin {td ty : TE} {σ : L2.St} {H : Hp} {Q : VK} (h : ty σ H fun y H1 => td σ H1 fun x H2 => ∃ a o, x = .ref a ∧ DGet H2 a y o ∧ Q (.bl (!o.isSome)) H2) : tDNotIn ty td σ H Q := h
/-- the keys of a dict of numbers -/
def DK (kvs : List (Key × V)) (S : Nat → Prop) : Prop := ∀ x : Nat, (valV kvs (Sum.inl (x : Int) : Key)).isSome = true ↔ S x
theorem DK.nil : DK [] (fun _ => False) := fun x => by simp [valV]
theorem DK.put {kvs : List (Key × V)} {S : Nat → Prop} (h : DK kvs S) (x : Nat) (v : V) : DK (putK kvs (Sum.inl (x : Int)) v) (fun y => S y ∨ y = x) := fun y => by
  rw [valV_put]
  by_cases e : y = x
  · subst e
    rw [if_pos rfl]
    exact ⟨fun _ => .inr rfl, fun _ => rfl⟩
  · rw [if_neg (fun z => e (by have := Sum.inl.inj z; omega))]
    rw [h y]
    exact ⟨fun z => .inl z, fun z => z.resolve_right e⟩
theorem DK.cong {kvs : List (Key × V)} {S S' : Nat → Prop} (h : DK kvs S) (e : ∀ x, S x ↔ S' x) : DK kvs S' := fun x => (h x).trans (e x)
theorem putK_le (c : List (Key × V)) (k : Key) (x : V) : (putK c k x).length ≤ c.length + 1 := by
  unfold putK
  split
  · rw [List.length_map]; omega
  · rw [List.length_append]; exact Nat.le_refl _
def sp_rings (K : PySem.W.Frag) (g : Gd) : Sp := fun vs H Q E => ∃ (p : Addr) (a : List Int), vs = [.ref p] ∧ SqT K H p (vI a) ∧ a.length ≤ 1000 ∧
  (SeatB a = false → E (.ref g.NoSeating) none H) ∧ (∀ n a', a = a'.map (fun (x : Nat) => (x : Int)) → IsP n a' → 1 ≤ n → n ≤ 16 → NewLT H (ringsN a') Q)
theorem len_rings (K : PySem.W.Frag) (g : Gd) (vs : List V) (H : Hp) (Q : VK) (E : XK) (h : sp_rings K g vs H Q E) : vs.length = 1 := by obtain ⟨_, _, rfl, _⟩ := h; rfl
abbrev N_rings : List Str := ["a", "found", "seen", "k", "ring", "at"]
/-- rings -/
def t_rings (K : PySem.W.Frag) (g : Gd) (E : XK) : TS :=
  (tSeq (tDrop (tCallS (sp_ask_seating K g) (WE (wE E)) (tCons (tVar 0) tNil)))
    (tSeq (tAsg (tLst tNil) (gName 1))
    (tSeq (tAsg tDNewK (gName 2))
    (tSeq (tFor (iRng1 (tCons (tCB (rLenQ K) (tCons (tVar 0) tNil)) tNil)) (gName 3) (tIfS (tB (tDNotIn (tVar 3) (tVar 2))) (tSeq (tAsg (tLst (tCons (tVar 3) tNil)) (gName 4))
    (tSeq (tAsg (tOp (rIxT K) (tVar 0) (tVar 3)) (gName 5))
    (tSeq (tWhile (tTest (tOp rNe (tVar 5) (tVar 3))) (tSeq (tDrop (tBM K "list" rAppend (tVar 4) (tCons (tVar 5) tNil)))
    (tSeq (sDPut (tVar 2) (tVar 5) (tC (.bl true)))
    (tAsg (tOp (rIxT K) (tVar 0) (tVar 5)) (gName 5)))))
    (tIfS (tTest (tOp rGtI (tCB (rLenQ K) (tCons (tVar 4) tNil)) (tC (.int 1)))) (tDrop (tBM K "list" rAppend (tVar 1) (tCons (tCB (rTupOf K) (tCons (tVar 4) tNil)) tNil))) tNext)))) tNext))
    (tRet (tVar 1))))))
theorem pure_rings {K : PySem.W.Frag} {g : Gd} (vs : List V) (H : Hp) (Q : VK) (E : XK) (h : sp_rings K g vs H Q E) : Rd1 (t_rings K g E) N_rings vs H Q := by
  obtain ⟨p, a, rfl, hp, hla, e1, k⟩ := h
  unfold t_rings
  walk_at "rd"
  refine ⟨p, a, rfl, hp, hla, fun ca => ?_, fun c => e1 c⟩
  obtain ⟨b, pb, eb, h1, h2⟩ := seatB_is ca
  have k := k _ b eb pb h1 h2
  rw [eb, ← vN_eq] at hp
  clear e1 ca
  generalize hn : a.length = n at *
  walk_at "rd"
  refine ⟨zl (Nat.zero_le _), fun f hf => ?_⟩
  have s1 := (Same.refl H).new (o := .lst []) hf
  walk_at "rd"
  refine w_dnew fun d hd => ?_
  have s2 := s1.new (o := .dK []) hd
  have hd0 : H d = none := s1.free hd
  have hfd : f ≠ d := ne_of_none upd_same hd
  walk_at "rd"
  refine len_TN (s2.tup hp) ?_
  rw [pb.len]
  walk_at "rd"
  refine w_for1 (by omega) (fun i σ H' => (∃ v r t, σ = [some (.ref p), some (.ref f), some (.ref d), v, r, t]) ∧ Same H H' ∧ (∃ vs, H' f = some (.lst vs) ∧ LT H' vs (ringsK b i)) ∧ (∃ kvs, H' d = some (.dK kvs) ∧ kvs.length ≤ i * 17 ∧ DK kvs (SeenP b i)))
    ⟨⟨_, _, _, rfl⟩, s2, ⟨[], by rw [upd_ne hfd, upd_same], .nil⟩, ⟨[], upd_same, Nat.le_refl _, fun x => ⟨fun z => by simp [valV] at z, fun ⟨q, hq, _⟩ => absurd hq (Nat.not_lt_zero q)⟩⟩⟩ ?_ ?_
  · rintro i σ H1 hi ⟨⟨v, r, t, rfl⟩, s, ⟨vs, hF, hLT⟩, ⟨kvs, hD, hkl, hDK⟩⟩
    walk_at "rd"
    refine w_dnotin ?_
    walk_at "rd"
    refine ⟨d, _, rfl, DGet.k (k := Sum.inl (i : Int)) hD, ?_⟩
    walk_at "rd"
    have hsn := seen_iff pb hi
    refine if_nb (fun c => ?_) (fun c => ?_)
    · -- not seen: the least of its ring
      have hmin : isMin b i = true := by
        cases hm : isMin b i with
        | true => rfl
        | false =>
          have := (hDK i).mpr (hsn.mpr hm)
          rw [c] at this; cases this
      obtain ⟨q1, q2, q3, q4⟩ := per_spec pb hi
      walk_at "rd"
      refine ⟨zl (by show 1 ≤ 100000; decide), fun l hl => ?_⟩
      have hl0 := s.free hl
      have s3 := s.new (o := .lst [V.int (i : Int)]) hl
      have hfl : f ≠ l := ne_of_none hF hl
      have hdl : d ≠ l := ne_of_none hD hl
      walk_at "rd"
      refine ix_TN (i := i) (s3.tup hp) (by rw [pb.len]; exact hi) rfl ?_
      walk_at "rd"
      refine w_while ⟨fun m σ H' => ∃ j, 1 ≤ j ∧ j + m = per b i ∧ σ = [some (.ref p), some (.ref f), some (.ref d), some (.int (i : Int)), some (.ref l), some (.int ((itr b j i : Nat) : Int))] ∧ Same H H' ∧ (H' f = some (.lst vs) ∧ LT H' vs (ringsK b i)) ∧
        (∃ kvs, H' d = some (.dK kvs) ∧ kvs.length ≤ i * 17 + j ∧ DK kvs (fun x => SeenP b i x ∨ ∃ u, 1 ≤ u ∧ u < j ∧ itr b u i = x)) ∧ H' l = some (.lst (vN ((List.range j).map fun u => itr b u i))), ⟨per b i - 1, 1, Nat.le_refl _, by omega, rfl, s3, ⟨by rw [upd_ne hfl]; exact hF, hLT.mono ((Same.refl H1).new hl)⟩,
          ⟨kvs, by rw [upd_ne hdl]; exact hD, by omega, hDK.cong fun x => ⟨fun z => .inl z, fun z => z.elim (fun z => z) fun ⟨u, a, b, _⟩ => by omega⟩⟩, upd_same⟩, ?_⟩
      clear hD hDK hkl hF hLT c s3 kvs
      rintro m σ H2 ⟨j, hj1, hjm, rfl, s, ⟨hF, hLT⟩, ⟨kvs, hD, hkl, hDK⟩, hL⟩
      walk_at "rd"
      refine if_nd (fun c => ?_) (fun c => ?_)
      · -- one more
        have hjp : j < per b i := by
          refine Decidable.byContradiction fun z => c ?_
          have : j = per b i := by omega
          rw [this, q1]
        refine ⟨_, fun σ' H' h => ⟨m - 1, by omega, h⟩, ?_⟩
        have hlt := itr_lt pb hi j
        have hdl2 : d ≠ l := ne_of hD hL (by intro z; cases z)
        have hfl2 : f ≠ l := hfl
        have hfd2 : f ≠ d := ne_of hF hD (by intro z; cases z)
        walk_at "rd"
        refine ⟨isL (sqL hL), ?_⟩
        walk_at "rd"
        refine app_N (a := (List.range j).map fun u => itr b u i) hL (by rw [List.length_map, List.length_range]; omega) ?_
        walk_at "sq"
        refine w_dput ?_
        walk_at "rd"
        refine ⟨d, _, rfl, DPut.k (k := Sum.inl ((itr b j i : Nat) : Int)) (by rw [upd_ne hdl2]; exact hD) (zlt (by omega)), ?_⟩
        walk_at "rd"
        have s5 := (s.up (o := .lst (vN ((List.range j).map (fun u => itr b u i) ++ [itr b j i]))) hl0).up (o := .dK (putK kvs (Sum.inl ((itr b j i : Nat) : Int)) (V.bl true))) hd0
        refine ix_TN (i := itr b j i) (s5.tup hp) (by rw [pb.len]; exact hlt) rfl ?_
        refine ⟨j + 1, by omega, by omega, rfl, s5, ⟨by rw [upd_ne hfd2, upd_ne hfl2]; exact hF, ?_⟩, ⟨_, upd_same, ?_, ?_⟩, ?_⟩
        · exact (hLT.upL hL).updD (by rw [upd_ne hdl2]; exact hD)
        · have := putK_le kvs (Sum.inl ((itr b j i : Nat) : Int)) (V.bl true); omega
        · refine (hDK.put (itr b j i) (V.bl true)).cong fun x => ⟨fun z => ?_, fun z => ?_⟩
          · rcases z with (z | ⟨u, a1, a2, a3⟩) | z
            · exact .inl z
            · exact .inr ⟨u, a1, by omega, a3⟩
            · exact .inr ⟨j, hj1, by omega, z.symm⟩
          · rcases z with z | ⟨u, a1, a2, a3⟩
            · exact .inl (.inl z)
            · by_cases e : u = j
              · exact .inr (by rw [← a3, e])
              · exact .inl (.inr ⟨u, a1, by omega, a3⟩)
        · rw [upd_ne hdl2.symm, upd_same, List.range_succ, List.map_append] <;> rfl
      · -- the ring is whole
        have hjp : j = per b i := by
          refine Decidable.byContradiction fun z => q3 j hj1 (by omega) (by have := c; omega)
        subst hjp
        have hr : H2 l = some (.lst (vN (ring b i))) := hL
        have hseen : ∀ x, (SeenP b i x ∨ ∃ u, 1 ≤ u ∧ u < per b i ∧ itr b u i = x) ↔ SeenP b (i + 1) x := fun x => by
          constructor
          · rintro (⟨q, h1, h2, h3⟩ | ⟨u, a1, a2, a3⟩)
            · exact ⟨q, by omega, h2, h3⟩
            · exact ⟨i, by omega, hmin, by rw [← a3]; exact mem_ring pb hi u, fun z => q3 u a1 a2 (by rw [a3, z])⟩
          · rintro ⟨q, h1, h2, h3, h4⟩
            by_cases e : q = i
            · subst e
              obtain ⟨u, hu, hx⟩ := ring_mem h3
              refine .inr ⟨u, ?_, hu, hx⟩
              refine Nat.pos_of_ne_zero fun z => h4 ?_
              rw [← hx, z] <;> rfl
            · exact .inl ⟨q, by omega, h2, h3, h4⟩
        walk_at "rd"
        refine len_LN (sqL hr) ?_
        walk_at "rd"
        rw [ring_len]
        refine if_d (fun c2 => ?_) (fun c2 => ?_)
        · walk_at "rd"
          refine ⟨isL (sqL hF), ?_⟩
          walk_at "rd"
          refine tup_L (sqL hr) fun t ht => ?_
          have hft : f ≠ t := ne_of_none hF ht
          have hdt : d ≠ t := ne_of_none hD ht
          walk_at "rd"
          refine app_V (xs := vs) (by rw [upd_ne hft]; exact hF) (by rw [hLT.len]; have := ringsK_len b i; omega) ?_
          have hfd2 : f ≠ d := ne_of hF hD (by intro z; cases z)
          refine ⟨⟨_, _, _, rfl⟩, (s.new ht).up hf, ⟨_, upd_same, ?_⟩, ⟨kvs, ?_, by omega, hDK.cong hseen⟩⟩
          · rw [ringsK_succ, hmin, decide_eq_true (by omega)]
            refine LT.snoc ?_ ?_
            · rw [upd_ne hft.symm, upd_same]
            · exact (hLT.mono ((Same.refl H2).new ht)).upL (by rw [upd_ne hft]; exact hF)
          · rw [upd_ne hfd2.symm, upd_ne hdt]; exact hD
        · walk_at "rd"
          refine ⟨⟨_, _, _, rfl⟩, s, ⟨vs, hF, ?_⟩, ⟨kvs, hD, by omega, hDK.cong hseen⟩⟩
          rw [ringsK_succ, decide_eq_false (by omega), Bool.and_false]
          exact (List.append_nil (ringsK b i)).symm ▸ hLT
    · -- seen
      have hmin : isMin b i = false := hsn.mp ((hDK i).mp c)
      walk_at "rd"
      refine ⟨⟨_, _, _, rfl⟩, s, ⟨vs, hF, ?_⟩, ⟨kvs, hD, by omega, hDK.cong fun x => ⟨fun ⟨q, h1, h2⟩ => ⟨q, by omega, h2⟩, fun ⟨q, h1, h2, h3⟩ => ⟨q, ?_, h2, h3⟩⟩⟩⟩
      · rw [ringsK_succ, hmin, Bool.false_and]
        exact (List.append_nil (ringsK b i)).symm ▸ hLT
      · by_cases e : q = i
        · rw [e, hmin] at h2; cases h2
        · omega
  · rintro σ H1 ⟨⟨v, r, t, rfl⟩, s, ⟨vs, hF, hLT⟩, _⟩
    walk_at "rd"
    refine k f H1 vs s hf hF ?_
    unfold ringsN
    rw [pb.len]
    exact hLT
section
variable {K : PySem.W.Frag} {H : Hp} {Q : VK} {p : Addr}
theorem ix_last {a : List Nat} {x : Nat} {z : Int} (h : SqL K H p (vN (a ++ [x]))) (e : z = -1) (q : Q (.int (x : Int)) H) : rIxL K (.ref p) (.int z) H Q := by
  subst e
  rw [← vN_app] at h
  exact ⟨p, _, _, _, rfl, rfl, h, atI_last _ _, q⟩
theorem min_N {a : List Nat} (h : SqL K H p (vN a)) (h0 : 0 < a.length) (q : ∀ m, m ∈ a → (∀ y ∈ a, m ≤ y) → Q (.int (m : Int)) H) : rMin K [.ref p] H Q := by
  rw [vN_eq] at h
  refine ⟨p, _, rfl, h, by rw [List.length_map]; exact h0, fun m hm hl => ?_⟩
  obtain ⟨m', hm', rfl⟩ := List.mem_map.mp hm
  refine q m' hm' fun y hy => ?_
  have := hl _ (List.mem_map.mpr ⟨y, hy, rfl⟩)
  omega
end
theorem isMin_eq {n : Nat} {a : List Nat} (h : IsP n a) {k m : Nat} (hk : k < n) (hm : m ∈ ring a k) (hl : ∀ y ∈ ring a k, m ≤ y) : isMin a k = decide ((m : Int) = (k : Int)) := by
  have := hl k (ring_self h hk)
  by_cases c : m = k
  · rw [decide_eq_true (by omega)]
    exact isMin_iff.mpr (by rw [← c]; rw [← c] at hl; exact hl)
  · rw [decide_eq_false (by omega)]
    refine Bool.eq_false_iff.mpr fun z => ?_
    have := isMin_iff.mp z m hm
    omega
end Shf

/-! an exception out of a list comprehension -/
namespace Shf
open PySem L2
section
open PyProof.Rows
/-- an exception out of a call in a comprehension's element: noted, the block let go, and on its way in the def's own frame -/
theorem comp_flew {X : Cx} {pins : List (Addr × Obj)} {σ : L2.St} {H : Hp} {s : Shared} {W : WX} {E : XK} {u : Value} {s' : Shared} {ce : Env} {use : Option (Value → Sem Unit)} {Qf : Value → Shared → Prop} {acc : Value}
    (hs : X.stack = X.env :: X.outer) (hf : X.env.frame = some X.env.locals) (hcf : ce.frame = X.env.frame) (tk : Takes X W) (I : Inv X pins σ H s) (fC : FpOk X pins H ce.locals) {m : Str → Option Value} (hn : s.heap.Ns ce.locals m)
    (hW : ∀ cls d H', E cls d H' → W cls d σ H') (c : L2.CX X.prog X.w X.stack H s E u s') :
    notedBy (model X.prog X.w) X.A ce (fun e z => compEnds (model X.prog X.w) X.A X.xe use Qf acc ce (.error e) z) u s' := by
  obtain ⟨a, B, H', cls, d, rfl, fl, hok, ub, na, os, ag, hE⟩ := c
  have hfr : X.A.frames = some (X.env :: X.outer) := by rw [I.ok.frames, hs]
  have nCs : ce.locals ∉ frs X.stack := fun z => by
    rcases List.mem_cons.mp (I.stkSub _ z) with e | e
    · exact fC.2.1 e
    · exact fC.2.2.1 e
  obtain ⟨oC, es, ep, hoC, hdC, hkC⟩ := hn
  have bC : B.get? ce.locals = some oC := ub.keep _ _ hoC fC.1 nCs
  have hC' : H' ce.locals = none := ub.free _ _ hoC fC.1
  have fl' : HandSPX.FlyingZ B (X.env :: X.outer) a (Zc cls d) s'.heap := by rw [← hs]; exact fl
  show wpAny _ _ (noteFrame (.ref a) ce) _ _ s'
  rw [noteFrame_env _ hcf]
  refine HandSPX.looks_onZ Zc.steady hfr hf fl' fun h1 hh1 up1 => ?_
  show CompFails _ _ _ ce _ _
  have hC1 : h1.get? ce.locals = some oC := hh1.1 _ _ bC
  refine ⟨m, ⟨oC, es, ep, hC1, hdC, hkC⟩, fun h2 m2 hn2 sb => ?_⟩
  obtain ⟨G, g1, g2⟩ := restrict B fun b => !decide (b = ce.locals)
  have gC : G.get? ce.locals = none := g2 _ (by simp)
  have gB : ∀ b o, G.get? b = some o → B.get? b = some o ∧ b ≠ ce.locals := fun b o e => by
    have hb : b ≠ ce.locals := fun z => by rw [z, gC] at e; cases e
    rw [g1 b (by simp [hb])] at e
    exact ⟨e, hb⟩
  have bG : ∀ b o, B.get? b = some o → b ≠ ce.locals → G.get? b = some o := fun b o e hb => by rw [g1 b (by simp [hb])]; exact e
  have nG : ∀ b, B.get? b = none → G.get? b = none := fun b e => by
    cases q : G.get? b with
    | none => rfl
    | some o => rw [(gB b o q).1] at e; cases e
  have same12 : ∀ b, b ≠ ce.locals → h2.get? b = h1.get? b := fun b hb => sb.2 b hb
  have up2 : ∀ b o, b ≠ ce.locals → s'.heap.get? b = some o → (∀ vs, o.data ≠ .fields vs) → ∃ sl, h2.get? b = some { o with slots := sl } := fun b o hb e hd => by
    obtain ⟨sl, q⟩ := up1 b o e hd
    exact ⟨sl, (same12 b hb).trans q⟩
  obtain ⟨k1, k2, k3, oe, vs, T, oT, ts, he, hz, hd, e1, hnT, hTe, hT, hdT, e3⟩ := hh1
  have haC : a ≠ ce.locals := fun z => by rw [z, hC1] at he; cases he; rw [hdC] at hd; cases hd
  have hTC : T ≠ ce.locals := fun z => by rw [z, hC1] at hT; cases hT; rw [hdC] at hdT; cases hdT
  have he2 : h2.get? a = some oe := (same12 a haC).trans he
  have hh2 : HandSPX.HeldZ G (X.env :: X.outer) a (Zc cls d) X.env.locals h2 := by
    have f2 : h2.FunFrames B (X.env :: X.outer) := Heap.FunFrames.sameBut sb hn2 k3
    refine ⟨fun b o e => ?_, nG a k2, funFrames_none f2 fun L hL => nG L (f2.mem hL).1, oe, vs, T, oT, ts, he2, hz, hd, e1, nG T hnT, hTe, (same12 T hTC).trans hT, hdT, e3⟩
    obtain ⟨q1, q2⟩ := gB b o e
    exact (same12 b q2).trans (k1 b o q1)
  unfold PySem.passOn
  refine wpAny_bind (wpAny_field (s := { s' with heap := h2 }) he2 hd e1 ?_)
  rw [if_neg (show ¬ ((Value.ref T == Value.none) = true) from by simp), hcf, hf]
  refine wpAny_bind (HandSPX.setFlight_onZ (s := { s' with heap := h2 }) hh2 fun h3 hh3 up3 => ?_)
  refine wpAny_throw ?_
  obtain ⟨Y, y1, y2⟩ := restrict h3 fun b => (G.get? b).isSome || decide (b ∈ frs X.stack)
  have yG : ∀ b o, G.get? b = some o → Y.get? b = some o := fun b o e => by
    rw [y1 b (by simp [e])]
    exact hh3.1 b o e
  have yF : ∀ b, b ∈ frs X.stack → Y.get? b = h3.get? b := fun b hb => y1 b (by simp [hb])
  have oY : ∀ b o, Y.get? b = some o → h3.get? b = some o ∧ ((G.get? b).isSome = true ∨ b ∈ frs X.stack) := fun b o e => by
    cases q : ((G.get? b).isSome || decide (b ∈ frs X.stack)) with
    | false => rw [y2 b q] at e; cases e
    | true =>
      rw [y1 b q] at e
      exact ⟨e, by simpa [Bool.or_eq_true] using q⟩
  have slots : ∀ b o, s.heap.get? b = some o → b ∈ frs X.stack → ∃ sl, Y.get? b = some { o with slots := sl } := fun b o e hb => by
    obtain ⟨sl, q⟩ := ub.slot b o e hb
    obtain ⟨_, o', eo, hdf⟩ := I.stack.mem hb
    rw [e] at eo; cases eo
    have hbC : b ≠ ce.locals := fun z => nCs (by rw [← z]; exact hb)
    obtain ⟨sl2, q2⟩ := up2 b _ hbC q hdf
    obtain ⟨sl3, q3⟩ := up3 b _ q2 hdf
    exact ⟨sl3, by rw [yF b hb]; exact q3⟩
  have hokY : HOk X.prog X.w H' Y := fun b o q => (hok b o q).stay (fun c v hc r => yG c v (bG c v r fun z => by
    rcases hc with hc | hc
    · rw [← hc, z, hC'] at q; cases q
    · rw [z, hC'] at hc; cases hc)) (fun _ r => r) fun _ _ r => r
  have J : Inv X pins σ H' { s with heap := Y, gens := s'.gens, drawn := s'.drawn, toks := s'.toks } :=
    I.call (ch := [ce.locals]) ⟨fun b o e n hb hc => yG b o (bG b o (ub.keep b o e n hb) fun z => hc (by simp [z])), fun b o e n hb _ => slots b o e hb, fun b o e n _ => ub.free b o e n, fun b o e hc => by
      by_cases hb : b ∈ frs X.stack
      · obtain ⟨sl, q⟩ := slots b o e hb
        exact ⟨_, q⟩
      · obtain ⟨o', q⟩ := ub.there b o e hb
        exact ⟨o', yG b o' (bG b o' q fun z => hc (by simp [z]))⟩, ub.tups, ub.frzs, ub.tbls⟩ hokY ag fun b hb => by
      have e : b = ce.locals := by simpa using hb
      subst e
      exact ⟨fC.2.2.2.1, fC.2.1, fC.2.2.2.2.1, fC.2.2.2.2.2⟩
  refine tk _ _ ⟨a, G, _, pins, σ, H', cls, d, rfl, J, fun b o e hb => ?_, Heap.UpToSlots.of_keeps fun b o e => (oY b o e).1, .inr (.inr (by rw [hs]; exact hh3)), na, os, ag, hW _ _ _ hE⟩
  obtain ⟨q1, q2⟩ := oY b o e
  rcases q2 with q2 | q2
  · obtain ⟨o', q⟩ := Option.isSome_iff_exists.mp q2
    have z := hh3.1 b o' q
    rw [q1] at z; cases z
    exact q
  · exact absurd q2 hb

section
variable {X : Cx} {elt tg iter : Expr} {ifs : List Expr} {scope : Scope} {own : List (Str × Nat)} {pos spos : Pos} {wi : TI} {g : TG} {tt : TT} {te : TE} {E : XK}
theorem ends_of_post {M : Model} {A : Around} {xe : Value → Shared → Prop} {use : Option (Value → Sem Unit)} {Qf : Value → Shared → Prop} {acc : Value} {ce : Env} {f : Flow} {s : Shared} (h : compPost M A xe use Qf acc ce.locals (.ok f) s) : compEnds M A xe use Qf acc ce (.ok f) s := by
  cases use <;> exact h
/-- a list comprehension whose element may raise what the def is wished to let out -/
theorem lcX {pins : List (Addr × Obj)} {s : Shared} {σ : L2.St} {H : Hp} {Q : VK} {pos' : Pos} {use : Option (Value → Sem Unit)} {Qf : Value → Shared → Prop}
    (hc : X.calm = true) (hN : X.N.Nodup) (hst : X.stack = X.env :: X.outer) (hfr : X.env.frame = some X.env.locals) (tk : Takes X (wE E)) (I : Inv X pins σ H s) (hi : PI X tg iter wi) (ok : BlkOk X.N X.env.scope scope own)
    (hg : ∀ (s : Shared) (H : Hp) (C : Addr) (cl : List (Str × Addr)) (fp : List Addr), PG (X.blk s H scope (compEnvC scope cl C X.env) fp) tg g) (ht : ∀ (s : Shared) (H : Hp) (C : Addr) (cl : List (Str × Addr)) (fp : List Addr), PTs (X.blk s H scope (compEnvC scope cl C X.env) fp) ifs tt)
    (he : ∀ (s : Shared) (H : Hp) (C : Addr) (cl : List (Str × Addr)) (fp : List Addr) (xe : Value → Shared → Prop), (∀ σ, PassesAt (L2.CX X.prog X.w) ((X.blk s H scope (compEnvC scope cl C X.env) fp).wish xe) σ E) → PE ((X.blk s H scope (compEnvC scope cl C X.env) fp).wish xe) elt te)
    (hs : ∀ x, foldedSetIterable iter X.env x = pure x) (h : tLc wi g tt te (own.map (·.2)) σ H Q)
    (hRR : ∀ D C s' m H', Inv X pins σ H' s' → Q (.ref D) H' → s'.heap.Ns C m → FpOk X pins H' C → compPost (model X.prog X.w) X.A X.xe use Qf (.ref D) C (.ok .next) s') :
    wpAny (model X.prog X.w) X.A (comprehension (.ListComp elt [⟨tg, iter, ifs, 0⟩] scope pos) scope X.env pos' (newList []) false (eval iter X.env) use) Qf X.xe s := by
  have caught : ∀ y ∈ scope.names, y.2 = .free → ∃ c, X.env.cells.lookup y.1 = some c := fun y hy e => I.ok.has _ ((ok.free y hy e).imp id id)
  refine comprehension_at (use := use) rfl hs (closure_ok caught) ok.kind (fun y hy e => by rw [ok.uniq y hy, e]) (thn (hi.run pins s σ H _ I h) fun xv s1 hx => thn hx fun itv s2 h2 => ?_)
  obtain ⟨it, fp, tn, J, H2, rfl, I2, T, st2, f2, q⟩ := h2
  refine wpAny_newObj_type (newEnv_comp ?_) (by show 0 ≤ sizeLine; decide)
  generalize eD : s2.heap.objs.size = D
  have fresh2 : H2 D = none := I2.hok.fresh (Nat.le_of_eq eD)
  obtain ⟨W, ⟨m0, w0⟩, turn⟩ := q D fresh2
  generalize e3 : ({ s2 with heap := s2.heap.push { cls := .type "list", data := .seq ([] : List Value).toArray } } : Shared) = s3
  have h3 : s3.heap = s2.heap.push { cls := .type "list", data := .seq ([] : List Value).toArray } := by rw [← e3]
  have I3 : Inv X pins σ (upd H2 D (.lst [])) s3 := by
    rw [← e3]
    refine I2.laid (t' := s2.toks) (fun b o e => Heap.get?_push_of_some _ e) (Nat.le_of_eq eD) ⟨Nat.zero_le _, [], 0, .nil, ?_⟩
    rw [← eD]; exact Heap.get?_push_size _ rfl
  have f3 : ∀ b ∈ fp, FpOk X pins (upd H2 D (.lst [])) b ∧ b < s3.heap.objs.size := fun b hb => by
    obtain ⟨o, e, _⟩ := T.obj _ _ st2 b hb
    have lt := Heap.lt_size e
    exact ⟨⟨by rw [upd_ne (by rw [← eD]; exact Nat.ne_of_lt lt)]; exact (f2 b hb).1, (f2 b hb).2⟩, by rw [h3, Heap.size_push]; exact Nat.lt_succ_of_lt lt⟩
  have st3 : tn 0 s3.heap := T.keep _ _ _ st2 fun b _ o e => by rw [h3]; exact Heap.get?_push_of_some _ e
  have I4 := block_start I3 ok hN f3
  generalize ecl : cellsFrom (s3.heap.objs.size + 1) scope.names (cloFrom X.env.cells scope.names []) = cl at I4
  have pg := hg s3 (upd H2 D (.lst [])) s3.heap.objs.size cl fp
  have pt := ht s3 (upd H2 D (.lst [])) s3.heap.objs.size cl fp
  have pe := he s3 (upd H2 D (.lst [])) s3.heap.objs.size cl fp
  show codeAny _ _ (.compStart (.ListComp elt [⟨tg, iter, ifs, 0⟩] scope pos) 0 (.ref it) (.ref D) (compEnvC scope cl s3.heap.objs.size X.env)) (compEnds (model X.prog X.w) X.A X.xe use Qf (.ref D) (compEnvC scope cl s3.heap.objs.size X.env)) { s3 with heap := pushCells (s3.heap.push { cls := .type "dict", data := .dict #[] }) scope.names }
  generalize ece : compEnvC scope cl s3.heap.objs.size X.env = ce at I4 pg pt pe ⊢
  have cL : ce.locals = s3.heap.objs.size := by rw [← ece] <;> rfl
  have cF : ce.frame = X.env.frame := by rw [← ece] <;> rfl
  generalize e4 : ({ s3 with heap := pushCells (s3.heap.push { cls := .type "dict", data := .dict #[] }) scope.names } : Shared) = s4 at I4 ⊢
  generalize upd H2 D (.lst []) = H3 at I3 I4 pg pt pe w0 f3
  have st4 : tn 0 s4.heap := T.keep _ _ _ st3 fun b _ o e => by rw [← e4]; exact pushCells_keeps _ _ _ _ (Heap.get?_push_of_some _ e)
  have off : ∀ {σ' : L2.St} {H' : Hp} {s' : Shared}, Inv (X.blk s3 H3 scope ce fp) [] σ' H' s' → (∀ b ∈ fp, H' b = none) → ∀ b ∈ fp, FpOk (X.blk s3 H3 scope ce fp) [] H' b := fun {σ' H' s'} I' hn b hb =>
    ⟨hn b hb, (I'.ok.exf b hb).1, I'.ok.exfs b hb, .inl hb, (I'.ok.exf b hb).2, fun p hp => by simp at hp⟩
  -- a state of the block is one of the def's
  have back : ∀ {pn : List (Addr × Obj)} {σ' : L2.St} {H' : Hp} {s' : Shared}, Inv (X.blk s3 H3 scope ce fp) pn σ' H' s' → Inv X pins σ H' s' ∧ FpOk X pins H' ce.locals := fun {pn σ' H' s'} I' =>
    ⟨I3.call' (ch := fp) I'.os I'.base I'.hok I'.bare fun b hb => ⟨(f3 b hb).1.2.2.2.1, (f3 b hb).1.2.1, (f3 b hb).1.2.2.2.2.1, (f3 b hb).1.2.2.2.2.2⟩, I3.fpOk (by rw [cL]; exact Nat.le_refl _) I'.free⟩
  have loop : codeAny (model X.prog X.w) X.A (.compLoop (.ListComp elt [⟨tg, iter, ifs, 0⟩] scope pos) 0 (.ref it) (.ref D) ce) (compEnds (model X.prog X.w) X.A X.xe use Qf (.ref D) ce) s4 := by
    refine compLoop_any (fun n z => ∃ i K, Inv (X.blk s3 H3 scope ce fp) [] (wipe σ (own.map (·.2))) K z ∧ tn i z.heap ∧ (∀ b ∈ fp, K b = none) ∧ W i n K) ?_ m0 ⟨0, H3, I4, st4, fun b hb => (f3 b hb).1.1, w0⟩
    rintro n z ⟨i, K, Iz, stz, nz, wz⟩
    rcases turn i n K wz with ⟨stop, qq⟩ | ⟨go, Nx, hNx, step⟩
    · refine thnF (T.done (X.blk s3 H3 scope ce fp) rfl rfl rfl hc i [] z _ K (fun _ _ => False) Iz (off Iz nz) stz stop) fun r z1 ⟨hr, I6⟩ => ?_
      subst hr
      obtain ⟨I7, fC⟩ := back I6
      obtain ⟨m, hn, _⟩ := I6.loc
      exact ends_of_post (hRR D ce.locals z1 m K I7 qq hn fC)
    · refine thnF (T.item (X.blk s3 H3 scope ce fp) rfl rfl rfl hc i [] z _ K (fun _ _ => False) Iz (off Iz nz) stz go) fun r z1 ⟨u, hr, h6⟩ => ?_
      subst hr
      refine thnF h6 fun _ z2 ⟨x, H7, I7, r7, y7, st7, n7⟩ => ?_
      refine thnF (pg.run _ z2 _ H7 x u _ (I7.pinned (off I7 n7) (T.obj _ _ st7)) r7 (step x H7 y7)) fun _ z3 ⟨σ8, H8, I8, hw8, q8⟩ => ?_
      refine thnF (pt.run _ z3 σ8 H8 _ I8 q8) fun b z4 ⟨H9, I9, q9⟩ => ?_
      have ends : ∀ {z' : Shared} {H' : Hp}, Inv (X.blk s3 H3 scope ce fp) ([] ++ pinsAt fp z2.heap) σ8 H' z' → Nx H' → ∃ m, m < n ∧ ∃ i K, Inv (X.blk s3 H3 scope ce fp) [] (wipe σ (own.map (·.2))) K z' ∧ tn i z'.heap ∧ (∀ b ∈ fp, K b = none) ∧ W i m K := fun {z' H'} I' nx => by
        obtain ⟨m', hm, w'⟩ := hNx H' nx
        have held : ∀ b ∈ fp, ∀ o, z2.heap.get? b = some o → z'.heap.get? b = some o ∧ H' b = none := fun b hb o e =>
          have z := I'.pin (b, o) (List.mem_append_right _ (List.mem_append_right _ (mem_pinsAt hb e)))
          ⟨z.1, z.2.1⟩
        refine ⟨m', hm, i + 1, H', (I'.unpinned (pins := [])).weak (by rw [← hw8, wipe_length]) (fun j v e => by rw [← hw8] at e; exact (wipe_some e).1), T.keep _ _ _ st7 fun b hb o e => (held b hb o e).1, fun b hb => ?_, w'⟩
        obtain ⟨o, e, _⟩ := T.obj _ _ st7 b hb
        exact (held b hb o e).2
      cases b with
      | false =>
        simp only [Bool.false_eq_true, if_false] at q9 ⊢
        exact ends I9 q9
      | true =>
        simp only [if_true] at q9 ⊢
        have run := (pe (notedBy (model X.prog X.w) X.A ce fun e z' => compEnds (model X.prog X.w) X.A X.xe use Qf (.ref D) ce (.error e) z') fun σ' pn H' s' e z' J c => by
          have J' := J.unwish
          obtain ⟨IX, fC⟩ := back J'
          obtain ⟨m, hn, _⟩ := J'.loc
          exact comp_flew hst hfr cF tk IX fC hn (fun _ _ _ h => h) c).run _ z4 σ8 H9 _ (I9.wish _) q9
        refine wpAny_mono run (fun v z5 ⟨yv, H10, I10, r10, acc, hD10, hz10, nx⟩ => ?_) fun _ _ y => y
        exact app_ok (X := X.blk s3 H3 scope ce fp) I10.unwish hD10 hz10 r10 fun z6 I11 => ends I11 nx
  exact codeAny_compStart_list loop (T.self X.A 0 _ _ _ st4 loop)
/-- name = [..] on one line, the name a local -/
theorem ps_setLcX {i : Nat} {y : Str} {py : Pos} (hc : X.calm = true) (hN : X.N.Nodup) (hst : X.stack = X.env :: X.outer) (hfr : X.env.frame = some X.env.locals) (tk : Takes X (wE E)) (hy : X.N[i]? = some y) (hyl : X.env.scope.names.lookup y = some .local)
    (hsw : swapsWith (.ListComp elt [⟨tg, iter, ifs, 0⟩] scope pos) (some (.Name y py)) spos.line X.env = pure true) (hi : PI X tg iter wi) (ok : BlkOk X.N X.env.scope scope own)
    (hg : ∀ (s : Shared) (H : Hp) (C : Addr) (cl : List (Str × Addr)) (fp : List Addr), PG (X.blk s H scope (compEnvC scope cl C X.env) fp) tg g) (ht : ∀ (s : Shared) (H : Hp) (C : Addr) (cl : List (Str × Addr)) (fp : List Addr), PTs (X.blk s H scope (compEnvC scope cl C X.env) fp) ifs tt)
    (he : ∀ (s : Shared) (H : Hp) (C : Addr) (cl : List (Str × Addr)) (fp : List Addr) (xe : Value → Shared → Prop), (∀ σ, PassesAt (L2.CX X.prog X.w) ((X.blk s H scope (compEnvC scope cl C X.env) fp).wish xe) σ E) → PE ((X.blk s H scope (compEnvC scope cl C X.env) fp).wish xe) elt te)
    (hs : ∀ x, foldedSetIterable iter X.env x = pure x := by intro _; rfl) :
    PS X (.Assign [.Name y py] (.ListComp elt [⟨tg, iter, ifs, 0⟩] scope pos) spos) (tAsg (tLc wi g tt te (own.map (·.2))) (gName i)) := by
  refine ⟨fun pins s σ H D I h => ?_⟩
  rw [exec_Assign_Name_used _ _ _ _ hsw]
  refine wpAny_bind (wpAny_standAt (wpAny_bind ?_))
  show wpAny _ X.A (do let _ ← comprehension (.ListComp elt [⟨tg, iter, ifs, 0⟩] scope pos) scope X.env (firstIterPos [⟨tg, iter, ifs, 0⟩] pos) (newList []) false (eval iter X.env) (some (assign (.Name y py) X.env))) _ _ s
  refine wpAny_bind (thn (lcX (E := E) (Q := fun x H1 => gName i x σ H1 D.nx) (Qf := fun _ z => SP X pins D .next z) hc hN hst hfr tk I hi ok hg ht he hs h fun L C z m H' I' q hn f => ?_) fun _ _ hq => wpAny_pure (wpAny_pure hq))
  show wpAny _ _ (assign (.Name y py) X.env (.ref L)) _ _ _
  refine wpAny_assign_Name (store_ok2 (v := V.ref L) I' hN hy (.inl hyl) rfl (fun z2 I2 ⟨a, sb, ha⟩ => ?_) (.inr hyl))
  have hCa : C ≠ a := ha.elim (fun e => by rw [e]; exact f.2.1) fun e z => f.2.2.2.2.1 y a e z.symm
  exact ⟨m, hn.sameBut sb hCa, fun h3 sb3 => ⟨_, H', I2.turned (t' := z2.toks) (fun b o hb e => (sb3.2 b hb).trans e) f.1 f.2.1 f.2.2.2.1 f.2.2.2.2.1 f.2.2.2.2.2, q⟩⟩
end
end
end Shf

/-! texts by their signs; seat_of, read -/
namespace Shf
open PySem L2
section
variable {H : Hp} {Q : VK}
theorem eq_SL {l m : List Nat} (q : Q (.bl (decide (l = m))) H) : rEq (.str (SX.S l)) (.str (SX.S m)) H Q := ⟨rfl, by
  have e : decide (V.str (SX.S l) = V.str (SX.S m)) = decide (l = m) := dec_iff ⟨fun h => SX.S_inj (V.str.inj h), fun h => by rw [h]⟩
  rw [e]; exact q⟩
theorem ne_SL {l m : List Nat} (q : Q (.bl (!decide (l = m))) H) : rNe (.str (SX.S l)) (.str (SX.S m)) H Q := ⟨rfl, by
  have e : decide (V.str (SX.S l) = V.str (SX.S m)) = decide (l = m) := dec_iff ⟨fun h => SX.S_inj (V.str.inj h), fun h => by rw [h]⟩
  rw [e]; exact q⟩
theorem len_SL {l : List Nat} (h : l.length ≤ 100000) (q : Q (.int (l.length : Nat)) H) : rLenSt [.str (SX.S l)] H Q := ⟨SX.S l, rfl, by rw [SX.S_len]; exact zl h, by rw [SX.S_len]; exact q⟩
theorem ix_SL {l : List Nat} {z : Int} {i c : Nat} (h : l[i]? = some c) (hl : l.length ≤ 100000) (e : z = (i : Int)) (q : Q (.str (SX.S [c])) H) : rIxS (.str (SX.S l)) (.int z) H Q := by
  refine ⟨SX.S l, z, c, rfl, rfl, by rw [SX.S_len]; exact zl hl, ?_, q⟩
  have hi := (List.getElem?_eq_some_iff.mp h).1
  show atI l z = some c
  unfold atI ixN
  rw [if_pos (by omega), if_pos (by omega)]
  show l[z.toNat]? = some c
  rw [show z.toNat = i by omega]
  exact h
theorem ix_Sl {l : List Nat} {z : Int} {c : Nat} (h : l.getLast? = some c) (hl : l.length ≤ 100000) (e : z = -1) (q : Q (.str (SX.S [c])) H) : rIxS (.str (SX.S l)) (.int z) H Q := by
  refine ⟨SX.S l, z, c, rfl, rfl, by rw [SX.S_len]; exact zl hl, ?_, q⟩
  show atI l z = some c
  have hne : l ≠ [] := fun e => by rw [e] at h; cases h
  have hpos : 0 < l.length := List.length_pos_iff.mpr hne
  unfold atI ixN
  rw [e, if_neg (by decide), if_pos (by omega)]
  show l[(-1 + (l.length : Int)).toNat]? = some c
  rw [show (-1 + (l.length : Int)).toNat = l.length - 1 by omega, ← List.getLast?_eq_getElem?]
  exact h
theorem nin_S {c : Nat} {m : List Nat} (q : Q (.bl (!decide (c ∈ m))) H) : rNotInS (.str (SX.S [c])) (.str (SX.S m)) H Q := ⟨c, SX.S m, rfl, rfl, q⟩
theorem in_S {c : Nat} {m : List Nat} (q : Q (.bl (decide (c ∈ m))) H) : rInS (.str (SX.S [c])) (.str (SX.S m)) H Q := ⟨c, SX.S m, rfl, rfl, q⟩
end
/-- for sign in text -/
theorem for_S {l : List Nat} {g : TG} {tb : TS} {D : Ends} {σ : L2.St} {H : Hp} (Pv : Nat → L2.St → Hp → Prop) (h0 : Pv 0 σ H)
    (hs : ∀ i c σ H, l[i]? = some c → Pv i σ H → g (.str (SX.S [c])) σ H fun σ2 H2 => tb { D with nx := Pv (i + 1), ct := Pv (i + 1), bk := D.nx } σ2 H2) (hd : ∀ σ H, Pv l.length σ H → D.nx σ H) :
    ∃ W : Nat → Nat → L2.St → Hp → Prop, (∃ m, W 0 m σ H) ∧ ∀ i m σ H, W i m σ H →
      ((Its (SX.S l)).stop i H ∧ D.nx σ H) ∨ ((Its (SX.S l)).go i H ∧ ∃ N : L2.St → Hp → Prop, (∀ σ' H', N σ' H' → ∃ m', m' < m ∧ W (i + 1) m' σ' H') ∧ ∀ x H', (Its (SX.S l)).yld i H x H' → g x σ H' fun σ2 H2 => tb { D with nx := N, ct := N, bk := D.nx } σ2 H2) := by
  have w : Walk (Its (SX.S l)) l.length (fun _ => True) (fun i H v H' => H' = H ∧ ∃ c, (SX.S l).cps[i]? = some c ∧ v = .str ⟨#[c]⟩) := walk_str (z := SX.S l)
  refine for_it w Pv h0 (fun _ _ _ _ _ => trivial) (fun i x σ H H' hi p y => ?_) hd
  obtain ⟨rfl, c, hc, rfl⟩ := y
  refine hs i c σ H' ?_ p
  have : (SX.S l).cps[i]? = l[i]? := by show l.toArray[i]? = _; rw [List.getElem?_toArray]
  rw [← this]; exact hc
theorem w_istr {te : TE} {σ : L2.St} {H : Hp} {R : It → Hp → Prop} (h : te σ H fun v H1 => ∃ x, v = .str x ∧ R (Its x) H1) : iStr te σ H R := h
theorem w_slT {r : V → Option Int → Option Int → Hp → VK → Prop} {te : TE} {tl th : TO} {σ : L2.St} {H : Hp} {Q : VK} (h : te σ H fun x H1 => tl σ H1 fun l H2 => th σ H2 fun u H3 => r x l u H3 Q) : L2.tSl r te tl th σ H Q := h
theorem w_part {t : TE} {σ : L2.St} {H : Hp} {Q : Option Int → Hp → Prop} (h : t σ H fun x H1 => ∃ i, x = .int i ∧ Q (some i) H1) : tPart t σ H Q := h
theorem w_m1 {r : V → List V → Hp → VK → Prop} {to te : TE} {σ : L2.St} {H : Hp} {Q : VK} (h : to σ H fun x H1 => (∃ a, x = .str a) ∧ te σ H1 fun y H2 => r x [y] H2 Q) : tM1 r to te σ H Q := h
theorem w_din {td ty : TE} {σ : L2.St} {H : Hp} {Q : VK} (h : ty σ H fun y H1 => td σ H1 fun x H2 => ∃ a o, x = .ref a ∧ DGet H2 a y o ∧ Q (.bl o.isSome) H2) : tDIn ty td σ H Q := h
/-! ### literals -/
theorem lit0 : ("" : Str) = SX.S [] := by rfl
theorem litP : ("()" : Str) = SX.S [40, 41] := by rfl
theorem litA : ("(" : Str) = SX.S [40] := by rfl
theorem litZ : (")" : Str) = SX.S [41] := by rfl
theorem litB : (")(" : Str) = SX.S [41, 40] := by rfl
theorem litS : (" " : Str) = SX.S [32] := by rfl
theorem lit00 : ("0" : Str) = SX.S [48] := by rfl
theorem litF : ("0123456789" : Str) = SX.S [48, 49, 50, 51, 52, 53, 54, 55, 56, 57] := by rfl
/-! ### what is read -/
def digB (c : Nat) : Bool := decide (48 ≤ c) && decide (c ≤ 57)
theorem dig_in {c : Nat} : c ∈ [48, 49, 50, 51, 52, 53, 54, 55, 56, 57] ↔ digB c = true := by
  unfold digB
  simp only [List.mem_cons, List.not_mem_nil, or_false, Bool.and_eq_true, decide_eq_true_eq]
  omega
/-- the seat that a word writes -/
def seatP (n : Nat) (w : List Nat) : Option Nat :=
  if w = [] ∨ 2 < w.length ∨ (w.head? = some 48 ∧ 1 < w.length) then none
  else if w.all digB = true then (if NumText.digitsVal w < n then some (NumText.digitsVal w) else none) else none
theorem seatP_lt {n : Nat} {w : List Nat} {v : Nat} (h : seatP n w = some v) : v < n := by
  unfold seatP at h
  split at h
  · cases h
  · split at h
    · split at h
      · rename_i h3
        rw [← Option.some.inj h]; exact h3
      · cases h
    · cases h
def seatsP (n : Nat) : List (List Nat) → Option (List Nat)
  | [] => some []
  | w :: ws => match seatP n w with
    | none => none
    | some v => (seatsP n ws).map (v :: ·)
theorem seatsP_snoc {n : Nat} : ∀ (ws : List (List Nat)) (w : List Nat), seatsP n (ws ++ [w]) = (seatsP n ws).bind fun r => (seatP n w).map fun v => r ++ [v]
  | [], w => by
    show (match seatP n w with | none => none | some v => (some ([] : List Nat)).map (v :: ·)) = _
    cases seatP n w <;> rfl
  | x :: ws, w => by
    show (match seatP n x with | none => none | some v => (seatsP n (ws ++ [w])).map (v :: ·)) = Option.bind (match seatP n x with | none => none | some v => (seatsP n ws).map (v :: ·)) _
    rw [seatsP_snoc ws w]
    cases seatP n x with
    | none => rfl
    | some v =>
      cases seatsP n ws with
      | none => rfl
      | some r => cases seatP n w <;> rfl
theorem seatsP_lt {n : Nat} : ∀ {ws : List (List Nat)} {r : List Nat}, seatsP n ws = some r → ∀ x ∈ r, x < n
  | [], r, h, x, hx => by
    rw [← Option.some.inj h] at hx; cases hx
  | w :: ws, r, h, x, hx => by
    have h : (match seatP n w with | none => none | some v => (seatsP n ws).map (v :: ·)) = some r := h
    cases e : seatP n w with
    | none => rw [e] at h; cases h
    | some v =>
      rw [e] at h
      cases e2 : seatsP n ws with
      | none => rw [e2] at h; cases h
      | some r' =>
        rw [e2] at h
        have h : v :: r' = r := Option.some.inj h
        subst h
        rcases List.mem_cons.mp hx with hx | hx
        · rw [hx]; exact seatP_lt e
        · exact seatsP_lt e2 x hx
theorem seatsP_len {n : Nat} : ∀ {ws : List (List Nat)} {r : List Nat}, seatsP n ws = some r → r.length = ws.length
  | [], r, h => by rw [← Option.some.inj h] <;> rfl
  | w :: ws, r, h => by
    have h : (match seatP n w with | none => none | some v => (seatsP n ws).map (v :: ·)) = some r := h
    cases e : seatP n w with
    | none => rw [e] at h; cases h
    | some v =>
      rw [e] at h
      cases e2 : seatsP n ws with
      | none => rw [e2] at h; cases h
      | some r' =>
        rw [e2] at h
        have h : v :: r' = r := Option.some.inj h
        rw [← h, List.length_cons, List.length_cons, seatsP_len e2]
/-- a fold that may fail -/
def foldO {α β : Type} (f : α → β → Option α) : α → List β → Option α
  | s, [] => some s
  | s, x :: l => (f s x).bind fun t => foldO f t l
theorem foldO_app {α β : Type} {f : α → β → Option α} : ∀ (a b : List β) (s : α), foldO f s (a ++ b) = (foldO f s a).bind fun t => foldO f t b
  | [], b, s => rfl
  | x :: a, b, s => by
    show (f s x).bind (fun t => foldO f t (a ++ b)) = ((f s x).bind fun t => foldO f t a).bind _
    cases f s x with
    | none => rfl
    | some t => exact foldO_app a b t
theorem foldO_snoc {α β : Type} {f : α → β → Option α} {a : List β} {x : β} {s t : α} (h : foldO f s a = some t) : foldO f s (a ++ [x]) = f t x := by
  rw [foldO_app, h]
  show (f t x).bind (fun t => some t) = f t x
  cases f t x <;> rfl
theorem foldO_pre {α β : Type} {f : α → β → Option α} {a b : List β} {s : α} (h : foldO f s a = none) : foldO f s (a ++ b) = none := by
  rw [foldO_app, h] <;> rfl
abbrev RdSt := List Nat × List Nat
def stepP (r : List Nat) (st : RdSt) (k : Nat) : Option RdSt := if r.getD k 0 ∈ st.2 then none else some (st.1.set (r.getD k 0) (r.getD ((k + 1) % r.length) 0), st.2 ++ [r.getD k 0])
def ringP (n : Nat) (st : RdSt) (part : List Nat) : Option RdSt := (seatsP n (TL.spl [32] 0 [] part)).bind fun r => if r.length < 2 then none else foldO (stepP r) st (List.range r.length)
def innL (t : List Nat) : List Nat := (t.drop 1).take (t.length - 2)
def partsL (t : List Nat) : List (List Nat) := TL.spl [41, 40] 0 [] (innL t)
/-- the seating that a text writes -/
def readP (n : Nat) (t : List Nat) : Option (List Nat) :=
  if t = [40, 41] then some (List.range n)
  else if t.length < 2 ∨ t.head? ≠ some 40 ∨ t.getLast? ≠ some 41 then none
  else (foldO (ringP n) (List.range n, []) (partsL t)).map (·.1)
theorem spl_size (S : List Nat) : ∀ (l : List Nat) (k : Nat) (acc : List Nat), (TL.spl S k acc l).length ≤ l.length + 1 ∧ ∀ p ∈ TL.spl S k acc l, p.length ≤ acc.length + l.length
  | [], k, acc => by rw [TL.spl_nil]; exact ⟨Nat.le_refl _, fun p hp => by rw [List.mem_singleton.mp hp]; exact Nat.le_refl _⟩
  | c :: r, 0, acc => by
    cases h : TL.pre S (c :: r) with
    | true =>
      rw [TL.spl_hit h]
      obtain ⟨i1, i2⟩ := spl_size S r (S.length - 1) []
      refine ⟨by rw [List.length_cons, List.length_cons]; omega, fun p hp => ?_⟩
      rcases List.mem_cons.mp hp with rfl | hp
      · omega
      · have := i2 p hp; rw [List.length_cons]; have : p.length ≤ 0 + r.length := this; omega
    | false =>
      rw [TL.spl_miss h]
      obtain ⟨i1, i2⟩ := spl_size S r 0 (acc ++ [c])
      refine ⟨by rw [List.length_cons]; omega, fun p hp => ?_⟩
      have := i2 p hp
      rw [List.length_append] at this
      rw [List.length_cons]
      have : p.length ≤ acc.length + 1 + r.length := this
      omega
  | c :: r, k + 1, acc => by
    show (TL.spl S k acc r).length ≤ _ ∧ ∀ p ∈ TL.spl S k acc r, _
    obtain ⟨i1, i2⟩ := spl_size S r k acc
    exact ⟨by rw [List.length_cons]; omega, fun p hp => by have := i2 p hp; rw [List.length_cons]; omega⟩
def sp_seat_of (K : PySem.W.Frag) (g : Gd) : Sp := fun vs H Q E => ∃ (w : List Nat) (n : Nat), vs = [.str (SX.S w), .int (n : Int)] ∧ w.length ≤ 100000 ∧ (seatP n w = none → E (.ref g.NotRead) none H) ∧ (∀ v, seatP n w = some v → Q (.int ((v : Nat) : Int)) H)
theorem len_seat_of (K : PySem.W.Frag) (g : Gd) (vs : List V) (H : Hp) (Q : VK) (E : XK) (h : sp_seat_of K g vs H Q E) : vs.length = 2 := by obtain ⟨_, _, rfl, _⟩ := h; rfl
abbrev N_seat_of : List Str := ["word", "size", "sign", "seat"]
/-- seat_of -/
def t_seat_of (K : PySem.W.Frag) (g : Gd) (E : XK) : TS :=
  (tSeq (tIfS (tOr (tTest (tOp rEq (tVar 0) (tC (.str "")))) (tOr (tTest (tOp rGtI (tCB rLenSt (tCons (tVar 0) tNil)) (tC (.int 2)))) (tAnd (tTest (tOp rEq (tOp rIxS (tVar 0) (tC (.int 0))) (tC (.str "0")))) (tTest (tOp rGtI (tCB rLenSt (tCons (tVar 0) tNil)) (tC (.int 1))))))) (tRaiseW (wE E) g.NotRead) tNext)
    (tSeq (tFor (iStr (tVar 0)) (gName 2) (tIfS (tTest (tOp rNotInS (tVar 2) (tC (.str "0123456789")))) (tRaiseW (wE E) g.NotRead) tNext))
    (tSeq (tAsg (tCB rIntS (tCons (tVar 0) tNil)) (gName 3))
    (tSeq (tIfS (tTest (tOp rGeI (tVar 3) (tVar 1))) (tRaiseW (wE E) g.NotRead) tNext)
    (tRet (tVar 3))))))
theorem pure_seat_of {K : PySem.W.Frag} {g : Gd} (vs : List V) (H : Hp) (Q : VK) (E : XK) (h : sp_seat_of K g vs H Q E) : Rd1 (t_seat_of K g E) N_seat_of vs H Q := by
  obtain ⟨w, n, rfl, hw, hE, k⟩ := h
  unfold t_seat_of
  rw [lit0, lit00, litF]
  have bad : (w = [] ∨ 2 < w.length ∨ (w.head? = some 48 ∧ 1 < w.length)) → E (.ref g.NotRead) none H := fun h => hE (by unfold seatP; rw [if_pos h])
  walk_at "sq"
  refine w_join (t := tIfS _ _ _) (fun σ H' => σ = [some (.str (SX.S w)), some (.int (n : Int)), none, none] ∧ H' = H ∧ ¬ (w = [] ∨ 2 < w.length ∨ (w.head? = some 48 ∧ 1 < w.length))) ?_ fun key => ?_
  · rintro σ H' ⟨rfl, rfl, hb⟩
    have hne : w ≠ [] := fun e => hb (.inl e)
    have hl2 : w.length ≤ 2 := Nat.le_of_not_lt fun h => hb (.inr (.inl h))
    walk_at "re"
    walk_at "sq"
    walk_at "st"
    refine w_istr ?_
    walk_at "ex"
    refine ⟨_, rfl, for_S (fun i σ H2 => ∃ y, σ = [some (.str (SX.S w)), some (.int (n : Int)), y, none] ∧ H2 = H' ∧ (w.take i).all digB = true) ⟨none, rfl, rfl, by rw [List.take_zero] <;> rfl⟩ ?_ ?_⟩
    · rintro i c σ H2 hc ⟨y, rfl, rfl, hd⟩
      show tIfS _ _ _ _ (List.set _ 2 (some (V.str (SX.S [c])))) H2
      walk_at "st"
      walk_at "ex"
      refine nin_S ?_
      walk_at "ex"
      refine if_nd (fun z => ?_) (fun z => ?_)
      · refine w_raise (hE ?_)
        unfold seatP
        rw [if_neg hb, if_neg]
        intro ha
        exact z (dig_in.mpr (List.all_eq_true.mp ha c (List.mem_of_getElem? hc)))
      · refine ⟨_, rfl, rfl, ?_⟩
        rw [take_more hc, List.all_append, hd, List.all_cons, dig_in.mp z] <;> rfl
    · rintro σ H2 ⟨y, rfl, rfl, hd⟩
      rw [List.take_length] at hd
      have hv : intText? (SX.S w) = some ((NumText.digitsVal w : Nat) : Int) := SX.int_S hd hne (by omega)
      walk_at "re"
      walk_at "sq"
      walk_at "re"
      refine ⟨SX.S w, _, rfl, hv, by rw [SX.S_len]; omega, ?_⟩
      walk_at "re"
      walk_at "sq"
      walk_at "st"
      walk_at "ex"
      refine if_d (fun z => ?_) (fun z => ?_)
      · refine w_raise (hE ?_)
        unfold seatP
        rw [if_neg hb, if_pos hd, if_neg (by omega)]
      · walk_at "rd"
        refine k _ ?_
        unfold seatP
        rw [if_neg hb, if_pos hd, if_pos (by omega)]
  · refine w_if ?_
    refine w_or ?_
    walk_at "ex"
    refine eq_SL ?_
    walk_at "ex"
    refine if_d (fun c => if_t rfl (w_raise (bad (.inl c)))) (fun c1 => ?_)
    refine w_or ?_
    walk_at "ex"
    refine len_SL hw ?_
    walk_at "ex"
    refine if_d (fun c => if_t rfl (w_raise (bad (.inr (.inl (by omega)))))) (fun c2 => ?_)
    obtain ⟨c0, w', ew⟩ : ∃ c0 w', w = c0 :: w' := by
      cases w with
      | nil => exact absurd rfl c1
      | cons a b => exact ⟨a, b, rfl⟩
    refine w_and ?_
    walk_at "ex"
    refine ix_SL (i := 0) (c := c0) (by rw [ew] <;> rfl) hw rfl ?_
    walk_at "ex"
    refine eq_SL ?_
    walk_at "ex"
    refine if_d (fun c3 => ?_) (fun c3 => ?_)
    · walk_at "ex"
      refine len_SL hw ?_
      walk_at "ex"
      refine if_d (fun c4 => w_raise (bad (.inr (.inr ⟨?_, by omega⟩)))) (fun c4 => key _ _ ⟨rfl, rfl, ?_⟩)
      · rw [ew]
        have : c0 = 48 := by simpa using c3
        rw [this] <;> rfl
      · rintro (h | h | h)
        · exact c1 h
        · omega
        · omega
    · refine if_f rfl (key _ _ ⟨rfl, rfl, ?_⟩)
      rintro (h | h | h)
      · exact c1 h
      · omega
      · refine c3 ?_
        have h1 := h.1
        rw [ew] at h1
        have : c0 = 48 := Option.some.inj h1
        rw [this]
end Shf

/-! read -/
namespace Shf
open PySem L2
theorem str_get {l : List (List Nat)} {i : Nat} {x : V} (h : ((l.map SX.S).map V.str)[i]? = some x) : ∃ p, l[i]? = some p ∧ x = V.str (SX.S p) := by
  rw [List.getElem?_map, List.getElem?_map] at h
  cases e : l[i]? with
  | none => rw [e] at h; cases h
  | some p => rw [e] at h; exact ⟨p, rfl, (Option.some.inj h).symm⟩
theorem seatsP_app {n : Nat} : ∀ (a b : List (List Nat)), seatsP n (a ++ b) = (seatsP n a).bind fun r => (seatsP n b).map (r ++ ·)
  | [], b => by
    show seatsP n b = (seatsP n b).map _
    cases seatsP n b <;> rfl
  | x :: a, b => by
    show (match seatP n x with | none => none | some v => (seatsP n (a ++ b)).map (v :: ·)) = Option.bind (match seatP n x with | none => none | some v => (seatsP n a).map (v :: ·)) _
    rw [seatsP_app a b]
    cases seatP n x with
    | none => rfl
    | some v =>
      cases seatsP n a with
      | none => rfl
      | some r => cases seatsP n b <;> rfl
theorem inn_cut {t : List Nat} (h : 2 ≤ t.length) : cutS (SX.S t) (some 1) (some (-1)) = SX.S (innL t) := by
  unfold cutS innL
  rw [SX.S_len]
  have e1 : HT.sIx t.length 0 (some 1) = 1 := by
    show (if (1 : Int) < 0 then ((1 : Int) + (t.length : Int)).toNat else min (1 : Int).toNat t.length) = 1
    rw [if_neg (by decide)]
    show min 1 t.length = 1
    omega
  have e2 : HT.sIx t.length t.length (some (-1)) = t.length - 1 := by
    show (if (-1 : Int) < 0 then ((-1 : Int) + (t.length : Int)).toNat else min (-1 : Int).toNat t.length) = _
    rw [if_pos (by decide)]
    omega
  rw [e1, e2, show t.length - 1 - 1 = t.length - 2 by omega]
theorem split_new {a b : List Nat} {H : Hp} {Q : VK} (hb : b ≠ []) (hk : b.all (· < 256) = true) (hl : a.length ≤ 90000) (k : ∀ p, H p = none → Q (.ref p) (upd H p (.lst (((TL.spl b 0 [] a).map SX.S).map V.str)))) : rSplit (.str (SX.S a)) [.str (SX.S b)] H Q := by
  refine ⟨SX.S a, SX.S b, rfl, rfl, ?_, by rw [SX.S_len]; exact zl (by omega), fun p hp => ?_⟩
  · rw [SX.S_len]
    cases b with
    | nil => exact absurd rfl hb
    | cons x y => rfl
  · rw [SX.split_S hb hk]
    exact k p hp
theorem range_cut {n j : Nat} (h : j + 1 ≤ n) : List.range n = List.range (j + 1) ++ (List.range n).drop (j + 1) := by
  conv => lhs; rw [← List.take_append_drop (j + 1) (List.range n)]
  rw [List.take_range, Nat.min_eq_left h]
/-- what the reading holds -/
structure RdAt (m : Nat) (H : Hp) (l d : Addr) (st : RdSt) : Prop where
  row : H l = some (.lst (vN st.1))
  len : st.1.length = m
  dic : ∃ kvs, H d = some (.dK kvs) ∧ DK kvs (· ∈ st.2) ∧ kvs.length ≤ st.2.length
  nd : st.2.Nodup
  lt : ∀ x ∈ st.2, x < m
theorem RdAt.mono {m : Nat} {H H' : Hp} {l d : Addr} {st : RdSt} (h : RdAt m H l d st) (s : Same H H') : RdAt m H' l d st := by
  obtain ⟨kvs, h1, h2, h3⟩ := h.dic
  exact ⟨s _ _ h.row, h.len, ⟨kvs, s _ _ h1, h2, h3⟩, h.nd, h.lt⟩
def sp_read (K : PySem.W.Frag) (g : Gd) : Sp := fun vs H Q E => ∃ (t : List Nat) (z : Int), vs = [.str (SX.S t), .int z] ∧ t.length ≤ 10000 ∧ (¬ (1 ≤ z ∧ z ≤ 16) → E (.ref g.NoSize) none H) ∧
  ∀ n : Nat, z = (n : Int) → 1 ≤ n → n ≤ 16 → (readP n t = none → ∀ H', Same H H' → E (.ref g.NotRead) none H') ∧ (∀ row, readP n t = some row → NewT H row Q)
theorem len_read (K : PySem.W.Frag) (g : Gd) (vs : List V) (H : Hp) (Q : VK) (E : XK) (h : sp_read K g vs H Q E) : vs.length = 2 := by obtain ⟨_, _, rfl, _⟩ := h; rfl
abbrev N_read : List Str := ["text", "size", "row", "used", "part", "ring", "k", "word"]
/-- read -/
def t_read (K : PySem.W.Frag) (g : Gd) (E : XK) : TS :=
  (tSeq (tDrop (tCallS (sp_ask_size K g) (WE (wE E)) (tCons (tVar 1) tNil)))
    (tSeq (tAsg (tCB (rListOf K) (tCons (tCallS (sp_rest K g) (WE (wE E)) (tCons (tVar 1) tNil)) tNil)) (gName 2))
    (tSeq (tIfS (tTest (tOp rEq (tVar 0) (tC (.str "()")))) (tRet (tCB (rTupOf K) (tCons (tVar 2) tNil))) tNext)
    (tSeq (tIfS (tOr (tTest (tOp rLtI (tCB rLenSt (tCons (tVar 0) tNil)) (tC (.int 2)))) (tOr (tTest (tOp rNe (tOp rIxS (tVar 0) (tC (.int 0))) (tC (.str "(")))) (tTest (tOp rNe (tOp rIxS (tVar 0) (tUn (rU fun i => .int (-i)) (tC (.int 1)))) (tC (.str ")")))))) (tRaiseW (wE E) g.NotRead) tNext)
    (tSeq (tAsg tDNewK (gName 3))
    (tSeq (tFor (iList K (tM1 rSplit (tSl rSlS (tVar 0) (tPart (tC (.int 1))) (tPart (tUn (rU fun i => .int (-i)) (tC (.int 1))))) (tC (.str ")(")))) (gName 4) (tSeq (tAsg (tLc (iList K (tM1 rSplit (tVar 4) (tC (.str " ")))) (gName 7) tYes (tCallS (sp_seat_of K g) (fun _ => E) (tCons (tVar 7) (tCons (tVar 1) tNil))) [7]) (gName 5))
    (tSeq (tIfS (tTest (tOp rLtI (tCB (rLenQ K) (tCons (tVar 5) tNil)) (tC (.int 2)))) (tRaiseW (wE E) g.NotRead) tNext)
    (tFor (iRng1 (tCons (tCB (rLenQ K) (tCons (tVar 5) tNil)) tNil)) (gName 6) (tSeq (tIfS (tB (tDIn (tOp (rIxL K) (tVar 5) (tVar 6)) (tVar 3))) (tRaiseW (wE E) g.NotRead) tNext)
    (tSeq (sDPut (tVar 3) (tOp (rIxL K) (tVar 5) (tVar 6)) (tC (.bl true)))
    (tAsg (tOp (rIxL K) (tVar 5) (tOp rModI (tOp rAddI (tVar 6) (tC (.int 1))) (tCB (rLenQ K) (tCons (tVar 5) tNil)))) (gSub (tVar 2) (tOp (rIxL K) (tVar 5) (tVar 6)) rSetL))))))))
    (tRet (tCB (rTupOf K) (tCons (tVar 2) tNil)))))))))
theorem pure_read {K : PySem.W.Frag} {g : Gd} (vs : List V) (H : Hp) (Q : VK) (E : XK) (h : sp_read K g vs H Q E) : Rd1 (t_read K g E) N_read vs H Q := by
  obtain ⟨t, z, rfl, ht, hE, hn⟩ := h
  unfold t_read
  rw [litP, litA, litZ, litB, litS]
  walk_at "re"
  walk_at "sq"
  walk_at "re"
  refine ⟨z, rfl, fun hz => ?_, hE⟩
  obtain ⟨n, en, h1, h16⟩ : ∃ n : Nat, z = (n : Int) ∧ 1 ≤ n ∧ n ≤ 16 := ⟨z.toNat, by omega, by omega, by omega⟩
  subst en
  obtain ⟨hno, hyes⟩ := hn n rfl h1 h16
  clear hE hn
  walk_at "re"
  walk_at "sq"
  walk_at "re"
  refine ⟨(n : Int), rfl, fun _ p0 H0 s0 hp0 hp00 => ?_, fun bad => absurd hz bad⟩
  rw [Int.toNat_natCast] at hp00
  walk_at "re"
  refine ⟨p0, _, rfl, .inr (sqT hp00), fun l hl => ?_⟩
  have s1 : Same H (upd H0 l (.lst (vN (List.range n)))) := s0.new hl
  have hl1 : (upd H0 l (.lst (vN (List.range n)))) l = some (.lst (vN (List.range n))) := upd_same
  have hl0 : H l = none := s0.free hl
  generalize upd H0 l (.lst (vN (List.range n))) = H1 at *
  clear hp00
  walk_at "re"
  walk_at "sq"
  walk_at "st"
  walk_at "ex"
  refine eq_SL ?_
  walk_at "ex"
  refine if_d (fun c0 => ?_) (fun c0 => ?_)
  · walk_at "rd"
    refine tup_L (sqL hl1) fun r hr => ?_
    exact hyes _ (by unfold readP; rw [if_pos c0]) r _ (s1.new hr) (s1.free hr) upd_same
  have bad : (t.length < 2 ∨ t.head? ≠ some 40 ∨ t.getLast? ≠ some 41) → ∀ H', Same H H' → E (.ref g.NotRead) none H' := fun h => hno (by unfold readP; rw [if_neg c0, if_pos h])
  walk_at "re"
  walk_at "sq"
  refine w_join (t := tIfS _ _ _) (fun σ H' => σ = [some (.str (SX.S t)), some (.int (n : Int)), some (.ref l), none, none, none, none, none] ∧ H' = H1 ∧ ¬ (t.length < 2 ∨ t.head? ≠ some 40 ∨ t.getLast? ≠ some 41)) ?_ fun key => ?_
  · rintro σ H' ⟨rfl, rfl, hb⟩
    have h2 : 2 ≤ t.length := Nat.le_of_not_lt fun h => hb (.inl h)
    have hfold : foldO (ringP n) (List.range n, []) (partsL t) = none → ∀ H', Same H H' → E (.ref g.NotRead) none H' := fun h => hno (by unfold readP; rw [if_neg c0, if_neg hb, h] <;> rfl)
    have hdone : ∀ st : RdSt, foldO (ringP n) (List.range n, []) (partsL t) = some st → NewT H st.1 Q := fun st h => hyes _ (by unfold readP; rw [if_neg c0, if_neg hb, h] <;> rfl)
    clear hno hyes bad hb
    walk_at "re"
    walk_at "sq"
    walk_at "re"
    refine w_dnew fun d hd => ?_
    have s2 : Same H' (upd H' d (.dK [])) := (Same.refl H').new hd
    have hd2 : (upd H' d (.dK [])) d = some (.dK []) := upd_same
    have hd0 : H d = none := s1.free hd
    have hld : l ≠ d := ne_of_none hl1 hd
    generalize upd H' d (.dK []) = H2 at *
    have s02 := s1.trans s2
    have hl2 := s2 _ _ hl1
    walk_at "re"
    walk_at "sq"
    walk_at "st"
    refine w_ilist ?_
    refine w_m1 ?_
    refine w_slT ?_
    walk_at "ex"
    refine w_part ?_
    walk_at "ex"
    refine w_part ?_
    walk_at "ex"
    refine ⟨SX.S t, rfl, by rw [SX.S_len]; exact zl (by omega), ?_⟩
    rw [inn_cut h2]
    refine ⟨⟨_, rfl⟩, ?_⟩
    walk_at "ex"
    have hinn : (innL t).length ≤ 10000 := by unfold innL; rw [List.length_take, List.length_drop]; omega
    refine split_new (by decide) (by decide) (by omega) fun q hq => ?_
    have hq3 : (upd H2 q (.lst (((TL.spl [41, 40] 0 [] (innL t)).map SX.S).map V.str))) q = some (.lst (((partsL t).map SX.S).map V.str)) := upd_same
    have s3 : Same H2 (upd H2 q (.lst (((TL.spl [41, 40] 0 [] (innL t)).map SX.S).map V.str))) := (Same.refl H2).new hq
    have hql : q ≠ l := (ne_of_none hl2 hq).symm
    have hqd : q ≠ d := (ne_of_none hd2 hq).symm
    have hq0 : H q = none := s02.free hq
    generalize upd H2 q (.lst (((TL.spl [41, 40] 0 [] (innL t)).map SX.S).map V.str)) = H3 at *
    have s03 := s02.trans s3
    have hsz : ∀ p ∈ partsL t, p.length ≤ 10000 := fun p hp => by
      have := (spl_size [41, 40] (innL t) 0 []).2 p hp
      have : p.length ≤ 0 + (innL t).length := this
      omega
    have R3 : RdAt n H3 l d (List.range n, []) := ⟨s3 _ _ hl2, List.length_range, ⟨[], s3 _ _ hd2, DK.nil.cong fun x => ⟨fun h => h.elim, fun h => by cases h⟩, Nat.le_refl _⟩, List.nodup_nil, fun x hx => by cases hx⟩
    refine ⟨q, rfl, ⟨_, sqL hq3⟩, for_list (K := K) (a := q) (xs := ((partsL t).map SX.S).map V.str) (fun i σ Hx => ∃ (st : RdSt) (y4 y5 y6 : Option V), σ = [some (.str (SX.S t)), some (.int (n : Int)), some (.ref l), some (.ref d), y4, y5, y6, none] ∧ Same H Hx ∧ Hx q = some (.lst (((partsL t).map SX.S).map V.str)) ∧ foldO (ringP n) (List.range n, []) ((partsL t).take i) = some st ∧ RdAt n Hx l d st) ⟨_, none, none, none, rfl, s03, hq3, by rw [List.take_zero] <;> rfl, R3⟩ ?_ ?_ ?_⟩
    · rintro i σ Hx _ ⟨_, _, _, _, _, _, h, _⟩; exact sqL h
    · rintro i x σ Hx hx ⟨st, y4, y5, y6, rfl, sx, hqx, hfo, Rx⟩
      obtain ⟨part, hpart, rfl⟩ := str_get hx
      have hpl := hsz part (List.mem_of_getElem? hpart)
      have hnext : foldO (ringP n) (List.range n, []) ((partsL t).take (i + 1)) = ringP n st part := by rw [take_more hpart]; exact foldO_snoc hfo
      have hfail : ringP n st part = none → ∀ H', Same H H' → E (.ref g.NotRead) none H' := fun h => hfold (by
        rw [← List.take_append_drop (i + 1) (partsL t)]
        exact foldO_pre (by rw [hnext, h]))
      show tSeq _ _ _ (List.set _ 4 (some (V.str (SX.S part)))) Hx
      walk_at "re"
      walk_at "sq"
      walk_at "st"
      refine w_lc (w_ilist ?_)
      refine w_m1 ?_
      walk_at "ex"
      refine ⟨⟨_, rfl⟩, ?_⟩
      walk_at "ex"
      refine split_new (by decide) (by decide) (by omega) fun w hw => ?_
      have hwsz := (spl_size [32] part 0 []).1
      have hwsz2 : ∀ p ∈ TL.spl [32] 0 [] part, p.length ≤ 10000 := fun p hp => by
        have := (spl_size [32] part 0 []).2 p hp
        have : p.length ≤ 0 + part.length := this
        omega
      generalize ews : TL.spl [32] 0 [] part = ws at *
      have sw : Same Hx (upd Hx w (.lst ((ws.map SX.S).map V.str))) := (Same.refl Hx).new hw
      have hww : (upd Hx w (.lst ((ws.map SX.S).map V.str))) w = some (.lst ((ws.map SX.S).map V.str)) := upd_same
      generalize upd Hx w (.lst ((ws.map SX.S).map V.str)) = Hw at *
      have sxw := sx.trans sw
      have hring : ∀ {r}, seatsP n ws = some r → ringP n st part = if r.length < 2 then none else foldO (stepP r) st (List.range r.length) := fun {r} h => by
        unfold ringP
        rw [ews, h] <;> rfl
      refine ⟨w, rfl, ⟨_, sqL hww⟩, fun D hD => lc_list (K := K) (a := w) (xs := (ws.map SX.S).map V.str) (fun j Hy => Same Hw Hy ∧ ∃ r, seatsP n (ws.take j) = some r ∧ Hy D = some (.lst (vN r))) ?_ ?_ ?_ ?_⟩
      · exact ⟨(Same.refl Hw).new hD, [], by rw [List.take_zero] <;> rfl, upd_same⟩
      · rintro j Hy _ ⟨sy, _⟩; exact sqL (sy _ _ hww)
      · rintro j x Hy hx' ⟨sy, r, hr, hDy⟩
        obtain ⟨word, hword, rfl⟩ := str_get hx'
        refine ⟨rfl, ?_⟩
        walk_at "ex"
        refine ⟨word, n, rfl, by have := hwsz2 word (List.mem_of_getElem? hword); omega, fun hnone => ?_, fun v hv => ?_⟩
        · refine hfail ?_ _ (sxw.trans sy)
          unfold ringP
          have : seatsP n ws = none := by
            rw [← List.take_append_drop (j + 1) ws, seatsP_app, take_more hword, seatsP_snoc, hr]
            show Option.bind ((seatP n word).map _) _ = none
            rw [hnone] <;> rfl
          rw [ews, this] <;> rfl
        · have hrl := seatsP_len hr
          rw [List.length_take] at hrl
          refine ⟨vN r, hDy, by rw [vN_len]; exact zlt (by omega), sy.up hD, r ++ [v], ?_, ?_⟩
          · rw [take_more hword, seatsP_snoc, hr]
            show (seatP n word).map _ = _
            rw [hv] <;> rfl
          · rw [upd_same, ← vN_app]
      · rintro Hy ⟨sy, r, hr, hDy⟩
        have hlw : ((ws.map SX.S).map V.str).length = ws.length := by rw [List.length_map, List.length_map]
        rw [hlw, List.take_length] at hr
        have hrl := seatsP_len hr
        have hrlt := seatsP_lt hr
        have sxy := sxw.trans sy
        have Ry := (Rx.mono sw).mono sy
        have hqy := sy _ _ (sw _ _ hqx)
        have eR := hring hr
        have hDl : D ≠ l := fun z => by rw [z] at hD; have := sw _ _ Rx.row; rw [hD] at this; cases this
        have hDd : D ≠ d := fun z => by
          obtain ⟨kvs, hk, _⟩ := Rx.dic
          rw [z] at hD; have := sw _ _ hk; rw [hD] at this; cases this
        walk_at "re"
        walk_at "sq"
        walk_at "st"
        walk_at "ex"
        refine len_LN (sqL hDy) ?_
        walk_at "ex"
        refine if_d (fun c2 => ?_) (fun c2 => ?_)
        · exact w_raise (hfail (by rw [eR, if_pos (by omega)]) _ sxy)
        rw [if_neg (by omega)] at eR
        walk_at "re"
        walk_at "st"
        walk_at "re"
        refine len_LN (sqL hDy) ?_
        refine w_for1 (by omega) (fun j σ Hz => ∃ (st' : RdSt) (y6 : Option V), σ = [some (.str (SX.S t)), some (.int (n : Int)), some (.ref l), some (.ref d), some (.str (SX.S part)), some (.ref D), y6, none] ∧ Same H Hz ∧ Hz q = some (.lst (((partsL t).map SX.S).map V.str)) ∧ Hz D = some (.lst (vN r)) ∧ foldO (stepP r) st (List.range j) = some st' ∧ RdAt n Hz l d st') ⟨st, y6, rfl, sxy, hqy, hDy, rfl, Ry⟩ ?_ ?_
        · rintro j σ Hz hj ⟨st', y6, rfl, sz, hqz, hDz, hfo', Rz⟩
          obtain ⟨kvs, hkd, hDK, hkl⟩ := Rz.dic
          have hrj : r.getD j 0 < n := hrlt _ (List.mem_of_getElem? (getD_at hj))
          have hnx : foldO (stepP r) st (List.range (j + 1)) = stepP r st' j := by rw [List.range_succ]; exact foldO_snoc hfo'
          have h16' : st'.2.length ≤ 16 := by
            have := nd_sub_len (m := List.range n) Rz.nd fun x hx => List.mem_range.mpr (Rz.lt x hx)
            rw [List.length_range] at this
            omega
          walk_at "sq"
          walk_at "st"
          walk_at "ex"
          refine w_din ?_
          walk_at "ex"
          refine ix_LN (i := j) (sqL hDz) hj rfl ?_
          walk_at "ex"
          refine ⟨d, _, rfl, DGet.k (k := Sum.inl ((r.getD j 0 : Nat) : Int)) hkd, _, rfl, ?_⟩
          refine if_b (fun e => ?_) (fun e => ?_)
          · refine w_raise (hfail ?_ _ sz)
            rw [eR, range_cut (j := j) (by omega)]
            refine foldO_pre ?_
            rw [hnx]
            unfold stepP
            rw [if_pos ((hDK _).mp e)]
          · have hnin : r.getD j 0 ∉ st'.2 := fun h => by rw [(hDK _).mpr h] at e; cases e
            walk_at "re"
            walk_at "sq"
            refine w_dput ?_
            walk_at "re"
            refine ix_LN (i := j) (sqL hDz) hj rfl ?_
            refine ⟨d, _, rfl, DPut.k (k := Sum.inl ((r.getD j 0 : Nat) : Int)) hkd (zlt (by omega)), ?_⟩
            have sp1 : Same H (upd Hz d (.dK (putK kvs (Sum.inl ((r.getD j 0 : Nat) : Int)) (V.bl true)))) := sz.up hd0
            have hD1 : (upd Hz d (.dK (putK kvs (Sum.inl ((r.getD j 0 : Nat) : Int)) (V.bl true)))) D = some (.lst (vN r)) := by rw [upd_ne hDd]; exact hDz
            have hl1' : (upd Hz d (.dK (putK kvs (Sum.inl ((r.getD j 0 : Nat) : Int)) (V.bl true)))) l = some (.lst (vN st'.1)) := by rw [upd_ne hld]; exact Rz.row
            have hq1' : (upd Hz d (.dK (putK kvs (Sum.inl ((r.getD j 0 : Nat) : Int)) (V.bl true)))) q = some (.lst (((partsL t).map SX.S).map V.str)) := by rw [upd_ne hqd]; exact hqz
            have hd1' : (upd Hz d (.dK (putK kvs (Sum.inl ((r.getD j 0 : Nat) : Int)) (V.bl true)))) d = some (.dK (putK kvs (Sum.inl ((r.getD j 0 : Nat) : Int)) (V.bl true))) := upd_same
            generalize upd Hz d (.dK (putK kvs (Sum.inl ((r.getD j 0 : Nat) : Int)) (V.bl true))) = Hp_ at *
            walk_at "st"
            walk_at "re"
            refine len_LN (sqL hD1) ?_
            refine mod_I (by omega) ?_
            have em : ((j : Int) + 1) % (r.length : Int) = (((j + 1) % r.length : Nat) : Int) := by rw [Int.natCast_emod] <;> rfl
            rw [em]
            refine ix_LN (i := (j + 1) % r.length) (sqL hD1) (Nat.mod_lt _ (by omega)) rfl ?_
            walk_at "re"
            refine ix_LN (i := j) (sqL hD1) hj rfl ?_
            refine set_N (i := r.getD j 0) hl1' (by rw [Rz.len]; exact hrj) rfl ?_
            refine ⟨(st'.1.set (r.getD j 0) (r.getD ((j + 1) % r.length) 0), st'.2 ++ [r.getD j 0]), some (.int (j : Int)), rfl, sp1.up hl0, by rw [upd_ne hql]; exact hq1', by rw [upd_ne hDl]; exact hD1, ?_, ⟨upd_same, by show (st'.1.set _ _).length = n; rw [List.length_set]; exact Rz.len, ⟨_, by rw [upd_ne hld.symm]; exact hd1', (hDK.put _ _).cong fun x => ?_, ?_⟩, ?_, ?_⟩⟩
            · rw [hnx]
              unfold stepP
              rw [if_neg hnin]
            · show x ∈ st'.2 ∨ x = r.getD j 0 ↔ x ∈ st'.2 ++ [r.getD j 0]
              rw [List.mem_append, List.mem_singleton]
            · have := putK_le kvs (Sum.inl ((r.getD j 0 : Nat) : Int)) (V.bl true)
              show _ ≤ (st'.2 ++ [r.getD j 0]).length
              rw [List.length_append]
              show _ ≤ st'.2.length + 1
              omega
            · exact List.nodup_append.mpr ⟨Rz.nd, List.pairwise_singleton _ _, fun a ha b hb e => hnin (by rw [List.mem_singleton.mp hb] at e; rw [← e]; exact ha)⟩
            · intro x hx
              rcases List.mem_append.mp hx with h | h
              · exact Rz.lt x h
              · rw [List.mem_singleton.mp h]; exact hrj
        · rintro σ Hz ⟨st', y6, rfl, sz, hqz, hDz, hfo', Rz⟩
          exact ⟨st', _, _, _, rfl, sz, hqz, by rw [hnext, eR]; exact hfo', Rz⟩
    · rintro σ Hx ⟨st, y4, y5, y6, rfl, sx, hqx, hfo, Rx⟩
      have hlw : (((partsL t).map SX.S).map V.str).length = (partsL t).length := by rw [List.length_map, List.length_map]
      rw [hlw, List.take_length] at hfo
      walk_at "rd"
      refine tup_L (sqL Rx.row) fun r hr => ?_
      exact hdone st hfo r _ (sx.new hr) (sx.free hr) upd_same
  · refine w_if ?_
    refine w_or ?_
    walk_at "ex"
    refine len_SL (by omega) ?_
    walk_at "ex"
    refine if_d (fun c => if_t rfl (w_raise (bad (.inl (by omega)) _ s1))) (fun c1 => ?_)
    obtain ⟨ca, ta, et⟩ : ∃ ca ta, t = ca :: ta := by
      cases t with
      | nil => exact absurd (show (0 : Int) < 2 by decide) c1
      | cons a b => exact ⟨a, b, rfl⟩
    obtain ⟨cz, ez⟩ : ∃ cz, t.getLast? = some cz := by
      cases e : t.getLast? with
      | none => rw [List.getLast?_eq_none_iff] at e; rw [e] at et; cases et
      | some c => exact ⟨c, rfl⟩
    refine w_or ?_
    walk_at "ex"
    refine ix_SL (i := 0) (c := ca) (by rw [et] <;> rfl) (by omega) rfl ?_
    walk_at "ex"
    refine ne_SL ?_
    walk_at "ex"
    refine if_nd (fun c => if_t rfl (w_raise (bad (.inr (.inl ?_)) _ s1))) (fun c2 => ?_)
    · rw [et]
      intro h
      have : ca = 40 := Option.some.inj h
      exact c (by rw [this])
    walk_at "ex"
    refine ix_Sl (c := cz) ez (by omega) rfl ?_
    walk_at "ex"
    refine ne_SL ?_
    walk_at "ex"
    refine if_nd (fun c => w_raise (bad (.inr (.inr ?_)) _ s1)) (fun c3 => key _ _ ⟨rfl, rfl, ?_⟩)
    · rw [ez]
      intro h
      have : cz = 41 := Option.some.inj h
      exact c (by rw [this])
    · rintro (h | h | h)
      · omega
      · refine h ?_
        have : ca = 40 := by simpa using c2
        rw [et, this] <;> rfl
      · refine h ?_
        have : cz = 41 := by simpa using c3
        rw [ez, this]
end Shf

/-! the texts of seatings: mathematics -/
namespace Shf
open PySem L2
def bodyT (r : List Nat) : List Nat := TL.joinL [32] (r.map TL.numL)
def ringT (r : List Nat) : List Nat := 40 :: (bodyT r ++ [41])
def textT (rs : List (List Nat)) : List Nat := rs.flatMap ringT
def shownT (rs : List (List Nat)) : List Nat := if textT rs = [] then [40, 41] else textT rs
theorem joinL_len (S : List Nat) : ∀ l : List (List Nat), (TL.joinL S l).length ≤ (l.map (·.length)).sum + l.length * S.length
  | [] => Nat.zero_le _
  | [p] => by
    show p.length ≤ p.length + 0 + 1 * S.length
    omega
  | p :: q :: r => by
    have ih := joinL_len S (q :: r)
    show (p ++ (S ++ TL.joinL S (q :: r))).length ≤ p.length + ((q :: r).map (·.length)).sum + ((q :: r).length + 1) * S.length
    rw [List.length_append, List.length_append, Nat.succ_mul]
    omega
theorem sum_le {c : Nat} : ∀ {l : List Nat}, (∀ x ∈ l, x ≤ c) → l.sum ≤ c * l.length
  | [], _ => Nat.zero_le _
  | x :: l, h => by
    have h1 := h x List.mem_cons_self
    have h2 := sum_le (l := l) fun y hy => h y (List.mem_cons_of_mem _ hy)
    rw [List.sum_cons, List.length_cons, Nat.mul_succ]
    omega
theorem numL_2 {k : Nat} (h : k < 100) : (TL.numL k).length ≤ 2 := TL.numL_len (by decide) (by omega)
theorem nums_sum {r : List Nat} (h : ∀ x ∈ r, x < 100) : ((r.map TL.numL).map (·.length)).sum ≤ 2 * r.length := by
  have := sum_le (c := 2) (l := (r.map TL.numL).map (·.length)) fun x hx => by
    obtain ⟨w, hw, rfl⟩ := List.mem_map.mp hx
    obtain ⟨k, hk, rfl⟩ := List.mem_map.mp hw
    exact numL_2 (h k hk)
  rw [List.length_map, List.length_map] at this
  exact this
theorem bodyT_len {r : List Nat} (h : ∀ x ∈ r, x < 100) : (bodyT r).length ≤ 3 * r.length := by
  have a := joinL_len [32] (r.map TL.numL)
  have b := nums_sum h
  rw [List.length_map] at a
  have a : (bodyT r).length ≤ ((r.map TL.numL).map (·.length)).sum + r.length * 1 := a
  omega
theorem textT_snoc (rs : List (List Nat)) (r : List Nat) : textT (rs ++ [r]) = textT rs ++ ringT r := by
  unfold textT
  rw [List.flatMap_append, List.flatMap_cons, List.flatMap_nil, List.append_nil]
theorem textT_len : ∀ {rs : List (List Nat)}, (∀ r ∈ rs, r.length ≤ 16 ∧ ∀ x ∈ r, x < 100) → (textT rs).length ≤ 50 * rs.length
  | [], _ => Nat.zero_le _
  | r :: rs, h => by
    obtain ⟨h1, h2⟩ := h r List.mem_cons_self
    have ih := textT_len (rs := rs) fun y hy => h y (List.mem_cons_of_mem _ hy)
    have b := bodyT_len h2
    have e : textT (r :: rs) = ringT r ++ textT rs := by unfold textT; rw [List.flatMap_cons]
    rw [e, List.length_append, List.length_cons]
    have : (ringT r).length = (bodyT r).length + 1 + 1 := by unfold ringT; rw [List.length_cons, List.length_append] <;> rfl
    omega
theorem ringsK_mem {n : Nat} {a : List Nat} (h : IsP n a) {m : Nat} (hm : m ≤ n) {r : List Nat} (hr : r ∈ ringsK a m) : r.length ≤ n ∧ ∀ x ∈ r, x < n := by
  obtain ⟨k, hk, rfl⟩ := List.mem_map.mp hr
  have hk := List.mem_range.mp (List.mem_filter.mp hk).1
  exact ⟨by rw [ring_len]; exact (per_spec h (by omega)).2.2.2, fun x hx => ring_lt h (by omega) hx⟩
theorem ringsK_ok {n : Nat} {a : List Nat} (h : IsP n a) (h16 : n ≤ 16) {m : Nat} (hm : m ≤ n) : ∀ r ∈ ringsK a m, r.length ≤ 16 ∧ ∀ x ∈ r, x < 100 := fun r hr => by
  obtain ⟨h1, h2⟩ := ringsK_mem h hm hr
  exact ⟨by omega, fun x hx => by have := h2 x hx; omega⟩
theorem textK_len {n : Nat} {a : List Nat} (h : IsP n a) (h16 : n ≤ 16) {m : Nat} (hm : m ≤ n) : (textT (ringsK a m)).length ≤ 800 := by
  have h1 := textT_len (ringsK_ok h h16 hm)
  have := ringsK_len a m
  omega
theorem shownT_len {n : Nat} {a : List Nat} (h : IsP n a) (h16 : n ≤ 16) : (shownT (ringsN a)).length ≤ 800 := by
  unfold shownT
  split
  · decide
  · unfold ringsN; rw [h.len]; exact textK_len h h16 (Nat.le_refl _)
theorem seatP_num {n k : Nat} (hk : k < n) (hn : n ≤ 16) : seatP n (TL.numL k) = some k := by
  unfold seatP
  rw [if_neg, if_pos, if_pos]
  · rw [TL.numL_val]
  · rw [TL.numL_val]; exact hk
  · refine List.all_eq_true.mpr fun c hc => ?_
    have := TL.numL_digits k c hc
    unfold digB
    rw [decide_eq_true this.1, decide_eq_true this.2] <;> rfl
  · rintro (h | h | ⟨h1, h2⟩)
    · exact TL.numL_ne k h
    · have := numL_2 (k := k) (by omega); omega
    · by_cases c : k < 10
      · rw [TL.numL_lt c] at h2
        exact absurd h2 (Nat.lt_irrefl 1)
      · rw [TL.numL_step (by omega), TL.numL_lt (by omega)] at h1
        have : 48 + k / 10 = 48 := Option.some.inj h1
        omega
theorem seatsP_num {n : Nat} (hn : n ≤ 16) : ∀ {r : List Nat}, (∀ x ∈ r, x < n) → seatsP n (r.map TL.numL) = some r
  | [], _ => rfl
  | x :: r, h => by
    show (match seatP n (TL.numL x) with | none => none | some v => (seatsP n (r.map TL.numL)).map (v :: ·)) = _
    rw [seatP_num (h x List.mem_cons_self) hn, seatsP_num hn fun y hy => h y (List.mem_cons_of_mem _ hy)] <;> rfl
def rdRow (a : List Nat) (n : Nat) (s : List Nat) : List Nat := (List.range n).map fun x => if x ∈ s then a.getD x 0 else x
theorem rdRow_nil (a : List Nat) (n : Nat) : rdRow a n [] = List.range n := by
  unfold rdRow
  refine Eq.trans (List.map_congr_left fun x _ => ?_) (List.map_id _)
  rw [if_neg (by intro h; cases h)] <;> rfl
theorem rdRow_set {a : List Nat} {n : Nat} {s : List Nat} {x : Nat} : (rdRow a n s).set x (a.getD x 0) = rdRow a n (s ++ [x]) := by
  refine List.ext_getElem? fun i => ?_
  unfold rdRow
  rw [List.getElem?_set, List.getElem?_map, List.getElem?_map, List.length_map, List.length_range]
  by_cases hi : i < n
  · rw [List.getElem?_range hi]
    by_cases e : x = i
    · subst e
      rw [if_pos rfl, if_pos hi]
      show some (a.getD x 0) = some (if x ∈ s ++ [x] then a.getD x 0 else x)
      rw [if_pos (List.mem_append.mpr (.inr (List.mem_singleton.mpr rfl)))]
    · rw [if_neg e]
      show some (if i ∈ s then a.getD i 0 else i) = some (if i ∈ s ++ [x] then a.getD i 0 else i)
      by_cases c : i ∈ s
      · rw [if_pos c, if_pos (List.mem_append.mpr (.inl c))]
      · rw [if_neg c, if_neg]
        intro h
        rcases List.mem_append.mp h with h | h
        · exact c h
        · exact e (List.mem_singleton.mp h).symm
  · have : (List.range n)[i]? = none := List.getElem?_eq_none (by rw [List.length_range]; omega)
    rw [this]
    by_cases e : x = i
    · subst e
      rw [if_pos rfl, if_neg hi] <;> rfl
    · rw [if_neg e] <;> rfl
theorem ring_getD {a : List Nat} {k j : Nat} (h : j < per a k) : (ring a k).getD j 0 = itr a j k := by
  unfold ring
  rw [List.getD_eq_getElem?_getD, List.getElem?_map, List.getElem?_range h] <;> rfl
theorem ring_take (a : List Nat) (k : Nat) {m : Nat} (h : m < per a k) : (ring a k).take (m + 1) = (ring a k).take m ++ [itr a m k] := by
  refine take_more ?_
  unfold ring
  rw [List.getElem?_map, List.getElem?_range h] <;> rfl
theorem ring_fold {n : Nat} {a s : List Nat} (h : IsP n a) {k : Nat} (hk : k < n) (hd : ∀ x ∈ ring a k, x ∉ s) : ∀ m, m ≤ per a k → foldO (stepP (ring a k)) (rdRow a n s, s) (List.range m) = some (rdRow a n (s ++ (ring a k).take m), s ++ (ring a k).take m)
  | 0, _ => by
    rw [List.take_zero, List.append_nil] <;> rfl
  | m + 1, hm => by
    rw [List.range_succ, foldO_snoc (ring_fold h hk hd m (by omega))]
    unfold stepP
    have e0 : (ring a k).getD m 0 = itr a m k := ring_getD (by omega)
    have e1 : (ring a k).getD ((m + 1) % (ring a k).length) 0 = a.getD (itr a m k) 0 := by
      rw [ring_len]
      have hp := (per_spec h hk).2.1
      by_cases c : m + 1 = per a k
      · rw [c, Nat.mod_self, ring_getD (by omega)]
        show k = itr a (m + 1) k
        rw [c]; exact (per_spec h hk).1.symm
      · rw [Nat.mod_eq_of_lt (by omega), ring_getD (by omega)] <;> rfl
    have e2 : (ring a k).take (m + 1) = (ring a k).take m ++ [itr a m k] := ring_take a k (by omega)
    rw [e0, e1, e2]
    have hn : itr a m k ∉ s ++ (ring a k).take m := by
      intro hx
      rcases List.mem_append.mp hx with hx | hx
      · exact hd _ (mem_ring h hk m) hx
      · have nd := ring_nd h hk
        rw [← List.take_append_drop (m + 1) (ring a k), e2] at nd
        have := (List.nodup_append.mp (List.nodup_append.mp nd).1).2.2 _ hx _ (List.mem_singleton.mpr rfl)
        exact this rfl
    rw [if_neg hn, rdRow_set, List.append_assoc]
theorem ringP_ring {n : Nat} {a s : List Nat} (h : IsP n a) (hn : n ≤ 16) {k : Nat} (hk : k < n) (h1 : 1 < per a k) (hd : ∀ x ∈ ring a k, x ∉ s) : ringP n (rdRow a n s, s) (bodyT (ring a k)) = some (rdRow a n (s ++ ring a k), s ++ ring a k) := by
  unfold ringP
  have e : TL.spl [32] 0 [] (bodyT (ring a k)) = (ring a k).map TL.numL := by
    refine TL.spl_join (fun z => ?_) fun p hp => ?_
    · have := congrArg List.length z
      rw [List.length_map, ring_len, List.length_nil] at this
      omega
    · obtain ⟨x, _, rfl⟩ := List.mem_map.mp hp
      exact TL.numL_free (.inl (by decide))
  rw [e, seatsP_num hn fun x hx => ring_lt h hk hx]
  show (if (ring a k).length < 2 then none else _) = _
  rw [if_neg (by rw [ring_len]; omega)]
  have := ring_fold h hk hd (per a k) (Nat.le_refl _)
  rw [ring_len, this, List.take_of_length_le (by rw [ring_len]; exact Nat.le_refl _)]
theorem rings_fold {n : Nat} {a : List Nat} (h : IsP n a) (hn : n ≤ 16) : ∀ m, m ≤ n → foldO (ringP n) (List.range n, []) ((ringsK a m).map bodyT) = some (rdRow a n (ringsK a m).flatten, (ringsK a m).flatten)
  | 0, _ => by
    show some _ = some (rdRow a n [], [])
    rw [rdRow_nil]
  | m + 1, hm => by
    rw [ringsK_succ]
    by_cases c : (isMin a m && decide (1 < per a m)) = true
    · rw [if_pos c, List.map_append, List.map_cons, List.map_nil, foldO_snoc (rings_fold h hn m (by omega)), List.flatten_append, List.flatten_cons, List.flatten_nil, List.append_nil]
      rw [Bool.and_eq_true] at c
      refine ringP_ring h hn (by omega) (of_decide_eq_true c.2) fun x hx hs => ?_
      obtain ⟨r, hr, hxr⟩ := List.mem_flatten.mp hs
      obtain ⟨q, hq, rfl⟩ := List.mem_map.mp hr
      obtain ⟨hq, _⟩ := List.mem_filter.mp hq
      have hq := List.mem_range.mp hq
      have := isMin_iff.mp c.1 q (ring_trans h (by omega) hx (ring_symm h (by omega) hxr))
      omega
    · rw [if_neg c, List.append_nil]
      exact rings_fold h hn m (by omega)
theorem rdRow_all {n : Nat} {a : List Nat} (h : IsP n a) : rdRow a n (ringsK a n).flatten = a := by
  refine List.ext_getElem? fun i => ?_
  unfold rdRow
  rw [List.getElem?_map]
  by_cases hi : i < n
  · rw [List.getElem?_range hi, getD_at (by rw [h.len]; exact hi)]
    show some (if i ∈ (ringsK a n).flatten then a.getD i 0 else i) = some (a.getD i 0)
    by_cases c : i ∈ (ringsK a n).flatten
    · rw [if_pos c]
    · rw [if_neg c]
      congr 1
      obtain ⟨m, hm, hl⟩ := least_of (ring a i) (fun e => by have := ring_self h hi; rw [e] at this; cases this)
      have hmn := ring_lt h hi hm
      have hmin : isMin a m = true := isMin_iff.mpr fun x hx => hl x (ring_trans h hi hm hx)
      have him : i ∈ ring a m := ring_symm h hi hm
      by_cases c1 : 1 < per a m
      · exact absurd (List.mem_flatten.mpr ⟨ring a m, List.mem_map.mpr ⟨m, List.mem_filter.mpr ⟨List.mem_range.mpr hmn, by rw [hmin, decide_eq_true c1] <;> rfl⟩, rfl⟩, him⟩) c
      · obtain ⟨p1, p2, _, _⟩ := per_spec h hmn
        have hp : per a m = 1 := by omega
        obtain ⟨j, hj, e⟩ := ring_mem him
        have hj0 : j = 0 := by omega
        subst hj0
        have e : m = i := e
        rw [hp] at p1
        rw [← e]
        exact p1.symm
  · have e1 : (List.range n)[i]? = none := List.getElem?_eq_none (by rw [List.length_range]; omega)
    have e2 : a[i]? = none := List.getElem?_eq_none (by rw [h.len]; omega)
    rw [e1, e2] <;> rfl
theorem textT_in : ∀ {rs : List (List Nat)}, rs ≠ [] → textT rs = 40 :: (TL.joinL [41, 40] (rs.map bodyT) ++ [41])
  | [], h => absurd rfl h
  | [r], _ => by
    show ringT r ++ [] = _
    rw [List.append_nil] <;> rfl
  | r :: q :: rs, _ => by
    have ih := textT_in (rs := q :: rs) (by simp)
    have e : textT (r :: q :: rs) = ringT r ++ textT (q :: rs) := by unfold textT; rw [List.flatMap_cons]
    rw [e, ih]
    show 40 :: (bodyT r ++ [41]) ++ (40 :: (TL.joinL [41, 40] ((q :: rs).map bodyT) ++ [41])) = 40 :: ((bodyT r ++ ([41, 40] ++ TL.joinL [41, 40] ((q :: rs).map bodyT))) ++ [41])
    simp only [List.cons_append, List.append_assoc, List.nil_append]
theorem body_free (r : List Nat) : 41 ∉ bodyT r := by
  unfold bodyT
  have : ∀ l : List (List Nat), (∀ p ∈ l, 41 ∉ p) → 41 ∉ TL.joinL [32] l := fun l => by
    induction l with
    | nil => intro _ h; cases h
    | cons p l ih =>
      intro h
      cases l with
      | nil => exact h p List.mem_cons_self
      | cons q l =>
        intro hx
        have hx : 41 ∈ p ++ ([32] ++ TL.joinL [32] (q :: l)) := hx
        rcases List.mem_append.mp hx with hx | hx
        · exact h p List.mem_cons_self hx
        · rcases List.mem_append.mp hx with hx | hx
          · exact absurd (List.mem_singleton.mp hx) (by decide)
          · exact ih (fun y hy => h y (List.mem_cons_of_mem _ hy)) hx
  refine this _ fun p hp => ?_
  obtain ⟨x, _, rfl⟩ := List.mem_map.mp hp
  exact TL.numL_free (.inl (by decide))
/-- THE READ-BACK -/
theorem read_back {n : Nat} {a : List Nat} (h : IsP n a) (hn : n ≤ 16) : readP n (shownT (ringsN a)) = some a := by
  have hN : ringsN a = ringsK a n := by unfold ringsN; rw [h.len]
  rw [hN]
  have hf := rings_fold h hn n (Nat.le_refl _)
  rw [rdRow_all h] at hf
  unfold shownT
  by_cases e : ringsK a n = []
  · rw [e] at hf ⊢
    have : a = List.range n := by
      have hf : some (List.range n, ([] : List Nat)) = some (a, []) := hf
      exact (congrArg Prod.fst (Option.some.inj hf)).symm
    rw [this]
    show readP n (if ([] : List Nat) = [] then [40, 41] else []) = _
    rw [if_pos rfl]
    unfold readP
    rw [if_pos rfl]
  · have et := textT_in e
    have hbne : ∃ c w, TL.joinL [41, 40] ((ringsK a n).map bodyT) = c :: w := by
      cases er : ringsK a n with
      | nil => exact absurd er e
      | cons r rs =>
        have hr1 : 1 < r.length := by
          have : r ∈ ringsK a n := by rw [er]; exact List.mem_cons_self
          obtain ⟨k, hk, rfl⟩ := List.mem_map.mp this
          have := (List.mem_filter.mp hk).2
          rw [Bool.and_eq_true] at this
          rw [ring_len]
          exact of_decide_eq_true this.2
        have hb : ∃ c w, bodyT r = c :: w := by
          cases r with
          | nil => exact absurd hr1 (by decide)
          | cons x r =>
            cases en : TL.numL x with
            | nil => exact absurd en (TL.numL_ne x)
            | cons c w =>
              cases r with
              | nil => exact ⟨c, w, by show TL.numL x = _; rw [en]⟩
              | cons y r => exact ⟨c, _, by show TL.numL x ++ _ = _; rw [en] <;> rfl⟩
        obtain ⟨c, w, hb⟩ := hb
        cases rs with
        | nil => exact ⟨c, w, hb⟩
        | cons q rs => exact ⟨c, _, by show bodyT r ++ _ = _; rw [hb] <;> rfl⟩
    rw [et, if_neg (by simp)]
    unfold readP
    have hlen : (40 :: (TL.joinL [41, 40] ((ringsK a n).map bodyT) ++ [41])).length = (TL.joinL [41, 40] ((ringsK a n).map bodyT)).length + 2 := by
      rw [List.length_cons, List.length_append] <;> rfl
    rw [if_neg, if_neg]
    · have hp : partsL (40 :: (TL.joinL [41, 40] ((ringsK a n).map bodyT) ++ [41])) = (ringsK a n).map bodyT := by
        unfold partsL innL
        rw [hlen]
        show TL.spl [41, 40] 0 [] ((TL.joinL [41, 40] ((ringsK a n).map bodyT) ++ [41]).take (_ + 2 - 2)) = _
        rw [Nat.add_sub_cancel, List.take_append_of_le_length (Nat.le_refl _), List.take_length]
        refine TL.spl_join (fun z => e (List.map_eq_nil_iff.mp z)) fun p hp => ?_
        obtain ⟨r, _, rfl⟩ := List.mem_map.mp hp
        exact body_free r
      rw [hp, hf] <;> rfl
    · rintro (h | h | h)
      · rw [hlen] at h; omega
      · exact h rfl
      · refine h ?_
        rw [← List.cons_append, List.getLast?_append] <;> rfl
    · obtain ⟨c, w, hb⟩ := hbne
      rw [hb]
      intro z
      have := congrArg List.length z
      simp at this
end Shf

/-! shown, the law's written, k07 -/
namespace Shf
open PySem L2
def vW (l : List (List Nat)) : List V := (l.map SX.S).map V.str
theorem vW_snoc (l : List (List Nat)) (w : List Nat) : vW l ++ [.str (SX.S w)] = vW (l ++ [w]) := by
  unfold vW
  rw [List.map_append, List.map_append] <;> rfl
theorem vW_len (l : List (List Nat)) : (vW l).length = l.length := by unfold vW; rw [List.length_map, List.length_map]
theorem str_num {H : Hp} {Q : VK} {x : Nat} (h : x < 100) (q : Q (.str (SX.S (TL.numL x))) H) : rStrI [.int (x : Int)] H Q := by
  refine ⟨(x : Int), rfl, ?_, ?_⟩
  · have : ((x : Int)).natAbs.log2 < 7 := by
      rw [Int.natAbs_natCast]
      rcases Nat.eq_zero_or_pos x with e | e
      · subst e; decide
      · exact (Nat.log2_lt (by omega)).mpr (by omega)
    omega
  · rw [← SX.num_S]at q
    exact q
theorem join_nums {K : PySem.W.Frag} {H : Hp} {Q : VK} {D : Addr} {r : List Nat} (hD : H D = some (.lst (vW (r.map TL.numL)))) (h1 : r.length ≤ 16) (h2 : ∀ x ∈ r, x < 100) (q : Q (.str (SX.S (bodyT r))) H) : rJoin K (.str (SX.S [32])) [.ref D] H Q := by
  refine ⟨SX.S [32], D, (r.map TL.numL).map SX.S, rfl, rfl, .inl (sqL hD), ?_, ?_⟩
  · rw [SX.lens, List.length_map, List.length_map, SX.S_len]
    have := nums_sum h2
    show _ + _ * 1 ≤ _
    omega
  · rw [SX.join_S]
    exact q
theorem add_S {H : Hp} {Q : VK} {a b : List Nat} (h1 : a.length ≤ 40000) (h2 : b.length ≤ 40000) (q : Q (.str (SX.S (a ++ b))) H) : rAddS (.str (SX.S a)) (.str (SX.S b)) H Q := by
  refine ⟨SX.S a, SX.S b, rfl, rfl, ?_, ?_⟩
  · rw [SX.S_len, SX.S_len]; exact zl (by omega)
  · rw [SX.S_cat]; exact q
/-- whole + "(" + body + ")" -/
theorem ring_text (rs : List (List Nat)) (r : List Nat) : textT rs ++ [40] ++ bodyT r ++ [41] = textT (rs ++ [r]) := by
  rw [textT_snoc]
  unfold ringT
  rw [List.append_assoc, List.append_assoc] <;> rfl
def sp_shown (K : PySem.W.Frag) (g : Gd) : Sp := fun vs H Q E => ∃ (p : Addr) (a : List Int), vs = [.ref p] ∧ SqT K H p (vI a) ∧ a.length ≤ 1000 ∧
  (SeatB a = false → E (.ref g.NoSeating) none H) ∧ (∀ n a', a = a'.map (fun (x : Nat) => (x : Int)) → IsP n a' → 1 ≤ n → n ≤ 16 → ∀ H', Same H H' → Q (.str (SX.S (shownT (ringsN a')))) H')
theorem len_shown (K : PySem.W.Frag) (g : Gd) (vs : List V) (H : Hp) (Q : VK) (E : XK) (h : sp_shown K g vs H Q E) : vs.length = 1 := by obtain ⟨_, _, rfl, _⟩ := h; rfl
abbrev N_shown : List Str := ["a", "whole", "ring", "k"]
/-- shown -/
def t_shown (K : PySem.W.Frag) (g : Gd) (E : XK) : TS :=
  (tSeq (tAsg (tC (.str "")) (gName 1))
    (tSeq (tFor (iList K (tCallS (sp_rings K g) (WE (wE E)) (tCons (tVar 0) tNil))) (gName 2) (tAsg (tOp rAddS (tOp rAddS (tOp rAddS (tVar 1) (tC (.str "("))) (tM1 (rJoin K) (tC (.str " ")) (tLc (iTup K (tVar 2)) (gName 3) tYes (tCB rStrI (tCons (tVar 3) tNil)) [3]))) (tC (.str ")"))) (gName 1)))
    (tSeq (tIfS (tTest (tOp rEq (tVar 1) (tC (.str "")))) (tRet (tC (.str "()"))) tNext)
    (tRet (tVar 1)))))
theorem pure_shown {K : PySem.W.Frag} {g : Gd} (vs : List V) (H : Hp) (Q : VK) (E : XK) (h : sp_shown K g vs H Q E) : Rd1 (t_shown K g E) N_shown vs H Q := by
  obtain ⟨p, a, rfl, hp, hla, e1, k⟩ := h
  unfold t_shown
  rw [lit0, litA, litS, litZ, litP]
  walk_at "re"
  walk_at "sq"
  walk_at "re"
  walk_at "sq"
  walk_at "st"
  refine w_ilist ?_
  walk_at "ex"
  refine ⟨p, a, rfl, hp, hla, e1, fun n b eb pb h1 h2 r H1 vs s hr0 hr hLT => ?_⟩
  have k := k n b eb pb h1 h2
  have hok := ringsK_ok pb h2 (Nat.le_refl n)
  have hlenK := textK_len pb h2 (Nat.le_refl n)
  have eN : ringsN b = ringsK b n := by unfold ringsN; rw [pb.len]
  rw [eN] at hLT k
  have hrsl := ringsK_len b n
  generalize ringsK b n = rs at *
  have hpre : ∀ i, (textT (rs.take i)).length ≤ 800 := fun i => by
    have := textT_len (rs := rs.take i) fun x hx => hok x (List.mem_of_mem_take hx)
    have h3 : (rs.take i).length ≤ 16 := by rw [List.length_take]; omega
    omega
  refine ⟨r, rfl, ⟨_, sqL hr⟩, for_list (K := K) (a := r) (xs := vs) (fun i σ H' => (∃ v, σ = [some (.ref p), some (.str (SX.S (textT (rs.take i)))), v, none]) ∧ Same H H' ∧ H' r = some (.lst vs) ∧ LT H' vs rs) ⟨⟨_, rfl⟩, s, hr, hLT⟩ ?_ ?_ ?_⟩
  · rintro i σ H' _ h; exact sqL h.2.2.1
  · rintro i x σ H' hx ⟨⟨v, rfl⟩, sx, hrx, hLx⟩
    obtain ⟨q, ring, rfl, hring, hq⟩ := hLx.get' hx
    obtain ⟨o1, o2⟩ := hok ring (List.mem_of_getElem? hring)
    show tAsg _ _ _ (List.set _ 2 (some (V.ref q))) H'
    walk_at "st"
    walk_at "ex"
    refine add_S (Nat.le_trans (hpre i) (by decide)) (by decide) ?_
    refine w_m1 ?_
    walk_at "ex"
    refine ⟨⟨_, rfl⟩, ?_⟩
    refine w_lc ?_
    walk_at "ex"
    refine ⟨q, rfl, ⟨_, sqT hq⟩, fun D hD => lc_tup (K := K) (a := q) (xs := vN ring) (fun j Hy => Same H' Hy ∧ Hy D = some (.lst (vW ((ring.take j).map TL.numL)))) ?_ ?_ ?_ ?_⟩
    · exact ⟨(Same.refl H').new hD, upd_same⟩
    · rintro j Hy _ ⟨sy, _⟩; exact sqT (sy _ _ hq)
    · rintro j x Hy hxj ⟨sy, hDy⟩
      obtain ⟨m, hm, rfl⟩ := vN_get hxj
      refine ⟨rfl, ?_⟩
      walk_at "ex"
      refine str_num (o2 m (List.mem_of_getElem? hm)) ?_
      refine ⟨_, hDy, ?_, sy.up hD, ?_⟩
      · rw [vW_len, List.length_map, List.length_take]; exact zlt (by omega)
      · rw [upd_same, vW_snoc, take_more hm, List.map_append] <;> rfl
    · rintro Hy ⟨sy, hDy⟩
      rw [vN_len, List.take_length] at hDy
      refine join_nums hDy o1 o2 ?_
      have hb := bodyT_len o2
      have hi := hpre i
      refine add_S (by rw [List.length_append]; show _ + 1 ≤ _; omega) (by omega) ?_
      walk_at "ex"
      refine add_S (by rw [List.length_append, List.length_append]; show _ + 1 + _ ≤ _; omega) (by decide) ?_
      rw [ring_text, ← take_more hring]
      exact ⟨⟨_, rfl⟩, sx.trans sy, sy _ _ hrx, hLx.mono sy⟩
  · rintro σ H' ⟨⟨v, rfl⟩, sx, hrx, hLx⟩
    rw [hLx.len, List.take_length]
    walk_at "sq"
    walk_at "st"
    walk_at "ex"
    refine eq_SL ?_
    walk_at "ex"
    have k := k H' sx
    unfold shownT at k
    refine if_d (fun c => ?_) (fun c => ?_)
    · walk_at "rd"
      rw [if_pos c] at k
      exact k
    · walk_at "rd"
      rw [if_neg c] at k
      exact k
def sp_L_written (K : PySem.W.Frag) (g : Gd) : Sp := fun vs H Q _ => ∃ (p : Addr) (n : Nat) (a : List Nat), vs = [.ref p] ∧ SqT K H p (vN a) ∧ IsP n a ∧ n ≤ 16 ∧ ∀ H', Same H H' → Q (.str (SX.S (shownT (ringsN a)))) H'
theorem len_L_written (K : PySem.W.Frag) (g : Gd) (vs : List V) (H : Hp) (Q : VK) (E : XK) (h : sp_L_written K g vs H Q E) : vs.length = 1 := by obtain ⟨_, _, _, rfl, _⟩ := h; rfl
abbrev N_L_written : List Str := ["a", "whole", "k", "ring", "x"]
/-- _law_written -/
def t_L_written (K : PySem.W.Frag) (g : Gd) (E : XK) : TS :=
  (tSeq (tAsg (tC (.str "")) (gName 1))
    (tSeq (tFor (iRng1 (tCons (tCB (rLenQ K) (tCons (tVar 0) tNil)) tNil)) (gName 2) (tSeq (tAsg (tLst (tCons (tVar 2) tNil)) (gName 3))
    (tSeq (tWhile (tTest (tOp rNe (tOp (rIxT K) (tVar 0) (tOp (rIxL K) (tVar 3) (tUn (rU fun i => .int (-i)) (tC (.int 1))))) (tVar 2))) (tDrop (tBM K "list" rAppend (tVar 3) (tCons (tOp (rIxT K) (tVar 0) (tOp (rIxL K) (tVar 3) (tUn (rU fun i => .int (-i)) (tC (.int 1))))) tNil))))
    (tIfS (tAnd (tTest (tOp rGtI (tCB (rLenQ K) (tCons (tVar 3) tNil)) (tC (.int 1)))) (tTest (tOp rEq (tCB (rMin K) (tCons (tVar 3) tNil)) (tVar 2)))) (tAsg (tOp rAddS (tOp rAddS (tOp rAddS (tVar 1) (tC (.str "("))) (tM1 (rJoin K) (tC (.str " ")) (tLc (iList K (tVar 3)) (gName 4) tYes (tCB rStrI (tCons (tVar 4) tNil)) [4]))) (tC (.str ")"))) (gName 1)) tNext))))
    (tSeq (tIfS (tTest (tOp rEq (tVar 1) (tC (.str "")))) (tRet (tC (.str "()"))) tNext)
    (tRet (tVar 1)))))
theorem pure_L_written {K : PySem.W.Frag} {g : Gd} (vs : List V) (H : Hp) (Q : VK) (E : XK) (h : sp_L_written K g vs H Q E) : Rd1 (t_L_written K g E) N_L_written vs H Q := by
  obtain ⟨p, n, b, rfl, hp, pb, hn, k⟩ := h
  unfold t_L_written
  rw [lit0, litA, litS, litZ, litP]
  walk_at "re"
  walk_at "sq"
  walk_at "re"
  walk_at "sq"
  walk_at "st"
  walk_at "rd"
  refine len_TN hp ?_
  rw [pb.len]
  walk_at "rd"
  refine w_for1 (by omega) (fun i σ H' => (∃ v r, σ = [some (.ref p), some (.str (SX.S (textT (ringsK b i)))), v, r, none]) ∧ Same H H') ⟨⟨_, _, rfl⟩, Same.refl H⟩ ?_ ?_
  · rintro i σ H1 hi ⟨⟨v, r, rfl⟩, s⟩
    obtain ⟨q1, q2, q3, q4⟩ := per_spec pb hi
    have hpre := textK_len pb hn (m := i) (by omega)
    walk_at "rd"
    refine ⟨zl (by show 1 ≤ 100000; decide), fun l hl => ?_⟩
    have hl0 := s.free hl
    have s3 := s.new (o := .lst [V.int (i : Int)]) hl
    walk_at "rd"
    refine w_while ⟨fun m σ H' => ∃ j, j + 1 + m = per b i ∧ σ = [some (.ref p), some (.str (SX.S (textT (ringsK b i)))), some (.int (i : Int)), some (.ref l), none] ∧ Same H H' ∧
      H' l = some (.lst (vN ((List.range (j + 1)).map fun u => itr b u i))), ⟨per b i - 1, 0, by omega, rfl, s3, upd_same⟩, ?_⟩
    clear s3
    rintro m σ H2 ⟨j, hjm, rfl, s, hL⟩
    have hL' := hL
    rw [rangeS] at hL'
    have hlt := itr_lt pb hi j
    walk_at "rd"
    refine ix_last (sqL hL') rfl ?_
    refine ix_TN (i := itr b j i) (s.tup hp) (by rw [pb.len]; exact hlt) rfl ?_
    walk_at "rd"
    have hstep : b.getD (itr b j i) 0 = itr b (j + 1) i := rfl
    rw [hstep]
    refine if_nd (fun c => ?_) (fun c => ?_)
    · have hjp : j + 1 < per b i := by
        refine Decidable.byContradiction fun z => c ?_
        have : j + 1 = per b i := by omega
        rw [this, q1]
      refine ⟨_, fun σ' H' h => ⟨m - 1, by omega, h⟩, ?_⟩
      walk_at "rd"
      refine ⟨isL (sqL hL), ?_⟩
      walk_at "rd"
      refine ix_last (sqL hL') rfl ?_
      refine ix_TN (i := itr b j i) (s.tup hp) (by rw [pb.len]; exact hlt) rfl ?_
      walk_at "rd"
      rw [hstep]
      refine app_N hL (by rw [List.length_map, List.length_range]; omega) ?_
      refine ⟨j + 1, by omega, rfl, s.up hl0, ?_⟩
      rw [upd_same, rangeS _ (j + 1)]
    · have hjp : j + 1 = per b i := by
        refine Decidable.byContradiction fun z => q3 (j + 1) (by omega) (by omega) (by omega)
      rw [hjp] at hL
      have hr : H2 l = some (.lst (vN (ring b i))) := hL
      walk_at "re"
      walk_at "st"
      refine w_andP (b := decide (1 < (per b i : Int))) (c := isMin b i) (fun R h => ?_) (fun R h => ?_) ?_
      · walk_at "ex"
        refine len_LN (sqL hr) ?_
        rw [ring_len]
        walk_at "ex"
        exact h
      · walk_at "ex"
        refine min_N (sqL hr) (by rw [ring_len]; omega) fun mn hm hl => ?_
        walk_at "ex"
        rw [isMin_eq pb hi hm hl] at h
        exact h
      refine if_b (fun c2 => ?_) (fun c2 => ?_)
      · rw [Bool.and_eq_true] at c2
        obtain ⟨c2, c3⟩ := c2
        have c4 := of_decide_eq_true c2
        have o1 : (ring b i).length ≤ 16 := by rw [ring_len]; omega
        have o2 : ∀ x ∈ ring b i, x < 100 := fun x hx => by have := ring_lt pb hi hx; omega
        walk_at "st"
        walk_at "ex"
        refine add_S (Nat.le_trans hpre (by decide)) (by decide) ?_
        refine w_m1 ?_
        walk_at "ex"
        refine ⟨⟨_, rfl⟩, ?_⟩
        refine w_lc ?_
        walk_at "ex"
        refine ⟨l, rfl, ⟨_, sqL hr⟩, fun D hD => lc_list (K := K) (a := l) (xs := vN (ring b i)) (fun j Hy => Same H2 Hy ∧ Hy D = some (.lst (vW (((ring b i).take j).map TL.numL)))) ?_ ?_ ?_ ?_⟩
        · exact ⟨(Same.refl H2).new hD, upd_same⟩
        · rintro j Hy _ ⟨sy, _⟩; exact sqL (sy _ _ hr)
        · rintro j x Hy hxj ⟨sy, hDy⟩
          obtain ⟨m, hm, rfl⟩ := vN_get hxj
          refine ⟨rfl, ?_⟩
          walk_at "ex"
          refine str_num (o2 m (List.mem_of_getElem? hm)) ?_
          refine ⟨_, hDy, ?_, sy.up hD, ?_⟩
          · rw [vW_len, List.length_map, List.length_take]; exact zlt (by omega)
          · rw [upd_same, vW_snoc, take_more hm, List.map_append] <;> rfl
        · rintro Hy ⟨sy, hDy⟩
          rw [vN_len, List.take_length] at hDy
          refine join_nums hDy o1 o2 ?_
          have hb := bodyT_len o2
          refine add_S (by rw [List.length_append]; show _ + 1 ≤ _; omega) (by omega) ?_
          walk_at "ex"
          refine add_S (by rw [List.length_append, List.length_append]; show _ + 1 + _ ≤ _; omega) (by decide) ?_
          have er : ringsK b (i + 1) = ringsK b i ++ [ring b i] := by rw [ringsK_succ, c3, decide_eq_true (by omega)] <;> rfl
          rw [ring_text, ← er]
          exact ⟨⟨_, _, rfl⟩, s.trans sy⟩
      · walk_at "rd"
        have e : (isMin b i && decide (1 < per b i)) = false := by
          rw [Bool.and_comm] at c2
          rw [← dec_iff (show (1 : Int) < (per b i : Int) ↔ 1 < per b i by omega)]
          exact c2
        have er : ringsK b (i + 1) = ringsK b i := by rw [ringsK_succ, e]; exact List.append_nil _
        rw [er]
        exact ⟨⟨_, _, rfl⟩, s⟩
  · rintro σ H1 ⟨⟨v, r, rfl⟩, s⟩
    walk_at "sq"
    walk_at "st"
    walk_at "ex"
    refine eq_SL ?_
    walk_at "ex"
    have k := k H1 s
    unfold shownT ringsN at k
    rw [pb.len] at k
    refine if_d (fun c => ?_) (fun c => ?_)
    · walk_at "rd"
      rw [if_pos c] at k
      exact k
    · walk_at "rd"
      rw [if_neg c] at k
      exact k
abbrev N_law_k07 : List Str := ["script", "size", "one", "found"]
/-- law -/
def t_law_k07 (K : PySem.W.Frag) (g : Gd) (E : XK) : TS :=
  (tSeq (tAsg (tOp rAddI (tC (.int 1)) (tOp rModI (tCallS (sp_L_cell_at K g) (fun _ => E0) (tCons (tVar 0) (tCons (tC (.int 0)) tNil))) (tC (.int 16)))) (gName 1))
    (tSeq (tAsg (tCallS (sp_L_seating K g) (fun _ => E0) (tCons (tCallS (sp_L_cell_at K g) (fun _ => E0) (tCons (tVar 0) (tCons (tC (.int 1)) tNil))) (tCons (tVar 1) tNil))) (gName 2))
    (tSeq (tIfS (tTest (tOp rGtI (tVar 1) (tC (.int 6)))) (tAsg (tCallS (sp_L_far K g) (fun _ => E0) (tCons (tCallS (sp_L_cell_at K g) (fun _ => E0) (tCons (tVar 0) (tCons (tC (.int 1)) tNil))) (tCons (tVar 1) tNil))) (gName 2)) tNext)
    (tSeq (tIfS (tTest (tOp rEq (tOp rModI (tCallS (sp_L_cell_at K g) (fun _ => E0) (tCons (tVar 0) (tCons (tC (.int 2)) tNil))) (tC (.int 8))) (tC (.int 1)))) (tAsg (tTupRg (tRg1 (tVar 1))) (gName 2)) tNext)
    (tSeq (tAsg (tCallS (sp_shown K g) (WE (wE E)) (tCons (tVar 2) tNil)) (gName 3))
    (tSeq (tIfS (tOr (tNot (tB (tCB (rIsi K) (tCons (tVar 3) (tCons (tC (.ty "str")) tNil))))) (tTest (tOp rNe (tVar 3) (tCallS (sp_L_written K g) (fun _ => E0) (tCons (tVar 2) tNil))))) (tRet (tC (.bl false))) tNext)
    (tRet (tCallS (sp_L_same K g) (fun _ => E0) (tCons (tCallS (sp_read K g) (WE (wE E)) (tCons (tVar 3) (tCons (tVar 1) tNil))) (tCons (tVar 2) tNil))))))))))
theorem pure_law_k07 {K : PySem.W.Frag} {g : Gd} (vs : List V) (H : Hp) (Q : VK) (E : XK) (h : sp_law K vs H Q E) : Rd1 (t_law_k07 K g E) N_law_k07 vs H Q := by
  obtain ⟨a, ns, rfl, hS, _, k⟩ := h
  unfold t_law_k07
  walk_at "rd"
  refine ⟨a, ns, 0, rfl, hS, ?_⟩
  walk_at "rd"
  refine mod_I (by decide) ?_
  obtain ⟨n, hn, h1, h2⟩ := size16 (ns.getD 0 0)
  walk_at "rd"
  rw [hn]
  refine ⟨a, ns, 1, rfl, hS, ?_⟩
  walk_at "rd"
  refine ⟨_, n, rfl, by omega, fun p H1 s1 _ hp => ?_⟩
  walk_at "re"
  walk_at "sq"
  refine w_join (t := tIfS _ _ _) (fun σ H' => ∃ p x, σ = [some (.ref a), some (.int (n : Int)), some (.ref p), none] ∧ H' p = some (.tup (vN x)) ∧ IsP n x ∧ Same H H') ?_ fun key => ?_
  · rintro σ H' ⟨p, x, rfl, hp, px, s⟩
    walk_at "sq"
    refine w_join (t := tIfS _ _ _) (fun σ H' => ∃ p x, σ = [some (.ref a), some (.int (n : Int)), some (.ref p), none] ∧ H' p = some (.tup (vN x)) ∧ IsP n x) ?_ fun key => ?_
    · clear hp px s
      rintro σ H2 ⟨p, x, rfl, hp, px⟩
      have hpI : SqT K H2 p (vI (x.map fun (x : Nat) => (x : Int))) := by rw [← vN_eq]; exact sqT hp
      have hb := seatB_N px h1 h2
      have hxl : (x.map fun (x : Nat) => (x : Int)).length ≤ 1000 := by rw [List.length_map, px.len]; omega
      have hsl := shownT_len px h2
      walk_at "re"
      walk_at "sq"
      walk_at "re"
      refine ⟨p, _, rfl, hpI, hxl, fun c => by (rw [hb] at c; cases c), fun m x' ex _ _ _ H3 s3 => ?_⟩
      rw [← vInj.mp ex]
      clear ex
      walk_at "re"
      walk_at "sq"
      walk_at "st"
      refine w_or ?_
      walk_at "ex"
      refine is_str ?_
      walk_at "ex"
      refine if_f rfl ?_
      walk_at "ex"
      refine ⟨p, n, x, rfl, sqT (s3 _ _ hp), px, h2, fun H4 s4 => ?_⟩
      refine ne_SL ?_
      walk_at "ex"
      refine if_nd (fun c => absurd rfl c) fun _ => ?_
      walk_at "re"
      refine ⟨_, _, rfl, by omega, fun c => absurd ⟨by omega, by omega⟩ c, fun m em hm1 hm2 => ?_⟩
      have em : m = n := by omega
      rw [em, read_back px h2]
      refine ⟨(fun c => by cases c), fun row er r H5 s5 hr0 hr => ?_⟩
      have er := Option.some.inj er
      subst er
      walk_at "re"
      refine ⟨r, p, x, x, rfl, hr, sqT (s5 _ _ (s4 _ _ (s3 _ _ hp))), ?_⟩
      rw [decide_eq_true rfl]
      exact k _
    · walk_at "rd"
      refine ⟨a, ns, 2, rfl, s.seq hS, ?_⟩
      walk_at "rd"
      refine mod_I (by decide) ?_
      walk_at "rd"
      refine if_d (fun c => ?_) (fun c => key _ _ ⟨p, x, rfl, hp, px⟩)
      walk_at "re"
      refine ⟨rgOk_N (by omega), fun q hq => ?_⟩
      rw [rgV_N]
      exact key _ _ ⟨q, _, rfl, upd_same, isP_id n⟩
  · walk_at "rd"
    refine if_d (fun c => ?_) (fun c => key _ _ ⟨p, _, rfl, hp, isP_seat _ _, s1⟩)
    walk_at "rd"
    refine ⟨a, ns, 1, rfl, s1.seq hS, ?_⟩
    walk_at "rd"
    refine ⟨_, n, rfl, by omega, fun p H3 s3 _ hp => ?_⟩
    exact key _ _ ⟨p, _, rfl, hp, isP_far _ _, s1.trans s3⟩
end Shf

namespace Shf
open PySem L2
def top (i : Nat) : Stmt := PySem.Challenge.pw_shiftroom_k07_written.main.body.getD i (.Pass ⟨0, 0, 0, 0⟩)
abbrev s_L_cell_at : Stmt := top 19
abbrev s_L_far : Stmt := top 22
abbrev s_L_whole : Stmt := top 20
abbrev s_L_same : Stmt := top 23
abbrev s_L_seating : Stmt := top 21
abbrev s_L_written : Stmt := top 24
abbrev s_ask_size : Stmt := top 8
abbrev s_rest : Stmt := top 10
abbrev s_seat_of : Stmt := top 16
abbrev s_read : Stmt := top 17
abbrev s_is_seating : Stmt := top 7
abbrev s_ask_seating : Stmt := top 9
abbrev s_rings : Stmt := top 12
abbrev s_shown : Stmt := top 15
abbrev s_law_k07 : Stmt := top 25
structure Txt (K : PySem.W.Frag) (mg : Str → Option Value) (g : Gd) : Prop where
  z_bool : mg "bool" = none
  z_int : mg "int" = none
  z_isinstance : mg "isinstance" = none
  z_len : mg "len" = none
  z_list : mg "list" = none
  z_min : mg "min" = none
  z_range : mg "range" = none
  z_str : mg "str" = none
  z_tuple : mg "tuple" = none
  c_FIGURES : ∃ t, mg "FIGURES" = some (.str "0123456789" t)
  c_MOST : ∃ t, mg "MOST" = some (.int 16 t)
  g_NoSeating : mg "NoSeating" = some (.ref g.NoSeating)
  g_NoSize : mg "NoSize" = some (.ref g.NoSize)
  g_NotRead : mg "NotRead" = some (.ref g.NotRead)
  x_NoSeating : ExB K mg "NoSeating" g.NoSeating
  x_NoSize : ExB K mg "NoSize" g.NoSize
  x_NotRead : ExB K mg "NotRead" g.NotRead
section
variable {P : Program} {w : World} {K : PySem.W.Frag} {mg : Str → Option Value} {base : Heap} {g : Gd}
theorem sc_L_cell_at : FnScope N_L_cell_at ["script", "k"] (defScope s_L_cell_at) := ⟨rfl, rfl, rfl, by decide +kernel, rfl, by decide +kernel, by decide +kernel⟩
theorem ok_L_cell_at {f : Addr} {fd : FuncData} (T : Txt K mg g) (F : Fun K "_law_cell_at" "_law_cell_at" s_L_cell_at f fd)  : FnOk P w K mg base (L2.CX P w) 1 f fd ["script", "k"] (sp_L_cell_at K g) := by
  refine F.okX sc_L_cell_at (fun vs H Q E h => len_L_cell_at K g vs H Q E h) (fun cdv A outer s H vs Q E hr h => ⟨t_L_cell_at K g E, ?_, pure_L_cell_at  vs H Q E h⟩)
  have hu := hu_of hr
  have tkE : Takes (cxOf (L2.CX P w) P w K mg base N_L_cell_at "_law_cell_at" (defScope s_L_cell_at) f cdv A outer s H E) (wE E) := takes_of rfl rfl rfl rfl
  exact (pss_cons (ps_if (pt_cmpR op_lt (pv 1) (pe_callB call_len_seq (by rfl) T.z_len PySem.boot_len (pa_cons (pv 0) pa_nil)) (nomark _)) (pss_one (ps_ret (pe_ix ix_list (pv 0) (pv 1) (fun _ _ => rfl)))) pss_nil)
    (pss_one (ps_ret pe_int)))
theorem sc_L_far : FnScope N_L_far ["cell", "size"] (defScope s_L_far) := ⟨rfl, rfl, rfl, by decide +kernel, rfl, by decide +kernel, by decide +kernel⟩
theorem ok_L_far {f : Addr} {fd : FuncData} (T : Txt K mg g) (F : Fun K "_law_far" "_law_far" s_L_far f fd)  : FnOk P w K mg base (L2.CX P w) 1 f fd ["cell", "size"] (sp_L_far K g) := by
  refine F.okX sc_L_far (fun vs H Q E h => len_L_far K g vs H Q E h) (fun cdv A outer s H vs Q E hr h => ⟨t_L_far K g E, ?_, pure_L_far  vs H Q E h⟩)
  have hu := hu_of hr
  have tkE : Takes (cxOf (L2.CX P w) P w K mg base N_L_far "_law_far" (defScope s_L_far) f cdv A outer s H E) (wE E) := takes_of rfl rfl rfl rfl
  exact (pss_cons (ps_set (i := 2) sc_L_far.nd rfl (Or.inl rfl) (pe_listRg rfl (by rfl) T.z_list (prg_1 (by rfl) T.z_range (pv 1))))
    (pss_cons (ps_set (i := 3) sc_L_far.nd rfl (Or.inl rfl) (pe_lst pa_nil))
    (pss_cons (ps_for (passes_of rfl) rfl (pi_range1 (by rfl) T.z_range (pa_cons (pv 1) pa_nil)) (pg_name (i := 4) sc_L_far.nd rfl (Or.inl rfl)) (pss_cons (ps_set (i := 0) sc_L_far.nd rfl (Or.inl rfl) (pe_op op_modN (pe_op op_add (pe_op op_mul (pv 0) pe_int) pe_int) pe_int))
    (pss_one (ps_expr (pe_bm PySem.F.plainAttrs_list PySem.F.slot_list_append PySem.F.type_list_append mt_append (pv 3) (pa_cons (pe_bm PySem.F.plainAttrs_list PySem.F.slot_list_pop PySem.F.type_list_pop mt_popAt (pv 2) (pa_cons (pe_op op_modN (pv 0) (pe_op op_sub (pv 1) (pv 4))) pa_nil)) pa_nil))))))
    (pss_one (ps_ret (pe_callTy call_tuple_of (by rfl) T.z_tuple (by decide +kernel) (pa_cons (pv 3) pa_nil)))))))
theorem sc_L_whole : FnScope N_L_whole ["found"] (defScope s_L_whole) := ⟨rfl, rfl, rfl, by decide +kernel, rfl, by decide +kernel, by decide +kernel⟩
theorem ok_L_whole {f : Addr} {fd : FuncData} (T : Txt K mg g) (F : Fun K "_law_whole" "_law_whole" s_L_whole f fd)  : FnOk P w K mg base (L2.CX P w) 1 f fd ["found"] (sp_L_whole K g) := by
  refine F.okX sc_L_whole (fun vs H Q E h => len_L_whole K g vs H Q E h) (fun cdv A outer s H vs Q E hr h => ⟨t_L_whole K g E, ?_, pure_L_whole  vs H Q E h⟩)
  have hu := hu_of hr
  have tkE : Takes (cxOf (L2.CX P w) P w K mg base N_L_whole "_law_whole" (defScope s_L_whole) f cdv A outer s H E) (wE E) := takes_of rfl rfl rfl rfl
  exact (pss_one (ps_ret (pe_and (pe_callB call_isi (by rfl) T.z_isinstance (by decide +kernel) (pa_cons (pv 0) (pa_cons (pe_bltn (by rfl) T.z_int (by decide +kernel) rfl) pa_nil))) (pe_one (pe_not (pe_callB call_isi (by rfl) T.z_isinstance (by decide +kernel) (pa_cons (pv 0) (pa_cons (pe_bltn (by rfl) T.z_bool (by decide +kernel) rfl) pa_nil))))))))
theorem sc_L_same : FnScope N_L_same ["found", "due"] (defScope s_L_same) := ⟨rfl, rfl, rfl, by decide +kernel, rfl, by decide +kernel, by decide +kernel⟩
theorem ok_L_same {f : Addr} {fd : FuncData} (T : Txt K mg g) (F : Fun K "_law_same" "_law_same" s_L_same f fd) (c_L_whole : Cal P w K mg base 1 "_law_whole" ["found"] (sp_L_whole K g)) : FnOk P w K mg base (L2.CX P w) 2 f fd ["found", "due"] (sp_L_same K g) := by
  refine F.okX sc_L_same (fun vs H Q E h => len_L_same K g vs H Q E h) (fun cdv A outer s H vs Q E hr h => ⟨t_L_same K g E, ?_, pure_L_same  vs H Q E h⟩)
  have hu := hu_of hr
  have tkE : Takes (cxOf (L2.CX P w) P w K mg base N_L_same "_law_same" (defScope s_L_same) f cdv A outer s H E) (wE E) := takes_of rfl rfl rfl rfl
  exact (pss_cons (ps_if (PW.pt (pw_or (pt_not (pt_val (pe_callB call_isi (by rfl) T.z_isinstance (by decide +kernel) (pa_cons (pv 0) (pa_cons (pe_bltn (by rfl) T.z_tuple (by decide +kernel) rfl) pa_nil))))) (pw_or1 (pt_cmpR op_ne (pe_callB call_len_seq (by rfl) T.z_len PySem.boot_len (pa_cons (pv 0) pa_nil)) (pe_callB call_len_seq (by rfl) T.z_len PySem.boot_len (pa_cons (pv 1) pa_nil)) (nomark _))))) (pss_one (ps_ret pe_bl)) pss_nil)
    (pss_cons (ps_for (passes_of rfl) rfl (pi_tup (pv 0)) (pg_name (i := 2) sc_L_same.nd rfl (Or.inl rfl)) (pss_one (ps_if (pt_not (pt_val (pe_cal c_L_whole (hr.mono (by decide)) rfl (fun σ => passE0 σ) (pa_cons (pv 2) pa_nil)))) (pss_one (ps_ret pe_bl)) pss_nil)))
    (pss_one (ps_ret (pe_cmpR (op_eqD hr.units) (pv 0) (pv 1) (nomark _))))))
theorem sc_L_seating : FnScope N_L_seating ["cell", "size"] (defScope s_L_seating) := ⟨rfl, rfl, rfl, by decide +kernel, rfl, by decide +kernel, by decide +kernel⟩
theorem ok_L_seating {f : Addr} {fd : FuncData} (T : Txt K mg g) (F : Fun K "_law_seating" "_law_seating" s_L_seating f fd)  : FnOk P w K mg base (L2.CX P w) 1 f fd ["cell", "size"] (sp_L_seating K g) := by
  refine F.okX sc_L_seating (fun vs H Q E h => len_L_seating K g vs H Q E h) (fun cdv A outer s H vs Q E hr h => ⟨t_L_seating K g E, ?_, pure_L_seating  vs H Q E h⟩)
  have hu := hu_of hr
  have tkE : Takes (cxOf (L2.CX P w) P w K mg base N_L_seating "_law_seating" (defScope s_L_seating) f cdv A outer s H E) (wE E) := takes_of rfl rfl rfl rfl
  exact (pss_cons (ps_set (i := 2) sc_L_seating.nd rfl (Or.inl rfl) (pe_listRg rfl (by rfl) T.z_list (prg_1 (by rfl) T.z_range (pv 1))))
    (pss_cons (ps_set (i := 3) sc_L_seating.nd rfl (Or.inl rfl) (pe_lst pa_nil))
    (pss_cons (ps_for (passes_of rfl) rfl (pi_range1 (by rfl) T.z_range (pa_cons (pv 1) pa_nil)) (pg_name (i := 4) sc_L_seating.nd rfl (Or.inl rfl)) (pss_cons (ps_expr (pe_bm PySem.F.plainAttrs_list PySem.F.slot_list_append PySem.F.type_list_append mt_append (pv 3) (pa_cons (pe_bm PySem.F.plainAttrs_list PySem.F.slot_list_pop PySem.F.type_list_pop mt_popAt (pv 2) (pa_cons (pe_op op_modN (pv 0) (pe_op op_sub (pv 1) (pv 4))) pa_nil)) pa_nil)))
    (pss_one (ps_set (i := 0) sc_L_seating.nd rfl (Or.inl rfl) (pe_op op_fdivW (pv 0) (pe_op op_sub (pv 1) (pv 4)))))))
    (pss_one (ps_ret (pe_callTy call_tuple_of (by rfl) T.z_tuple (by decide +kernel) (pa_cons (pv 3) pa_nil)))))))
theorem sc_L_written : FnScope N_L_written ["a"] (defScope s_L_written) := ⟨rfl, rfl, rfl, by decide +kernel, rfl, by decide +kernel, by decide +kernel⟩
theorem ok_L_written {f : Addr} {fd : FuncData} (T : Txt K mg g) (F : Fun K "_law_written" "_law_written" s_L_written f fd)  : FnOk P w K mg base (L2.CX P w) 1 f fd ["a"] (sp_L_written K g) := by
  refine F.okX sc_L_written (fun vs H Q E h => len_L_written K g vs H Q E h) (fun cdv A outer s H vs Q E hr h => ⟨t_L_written K g E, ?_, pure_L_written  vs H Q E h⟩)
  have hu := hu_of hr
  have tkE : Takes (cxOf (L2.CX P w) P w K mg base N_L_written "_law_written" (defScope s_L_written) f cdv A outer s H E) (wE E) := takes_of rfl rfl rfl rfl
  exact (pss_cons (ps_set (i := 1) sc_L_written.nd rfl (Or.inl rfl) pe_str)
    (pss_cons (ps_for (passes_of rfl) rfl (pi_range1 (by rfl) T.z_range (pa_cons (pe_callB call_len_seq (by rfl) T.z_len PySem.boot_len (pa_cons (pv 0) pa_nil)) pa_nil)) (pg_name (i := 2) sc_L_written.nd rfl (Or.inl rfl)) (pss_cons (ps_set (i := 3) sc_L_written.nd rfl (Or.inl rfl) (pe_lst (pa_cons (pv 2) pa_nil)))
    (pss_cons (ps_while (passes_of rfl) (pt_cmpR op_ne (pe_ix ix_tup (pv 0) (pe_ix ix_list (pv 3) (pe_un un_neg pe_int) (fun _ _ => rfl)) (fun _ _ => rfl)) (pv 2) (nomark _)) (pss_one (ps_expr (pe_bm PySem.F.plainAttrs_list PySem.F.slot_list_append PySem.F.type_list_append mt_append (pv 3) (pa_cons (pe_ix ix_tup (pv 0) (pe_ix ix_list (pv 3) (pe_un un_neg pe_int) (fun _ _ => rfl)) (fun _ _ => rfl)) pa_nil)))))
    (pss_one (ps_if (PW.pt (pw_and (pt_cmpR op_gt (pe_callB call_len_seq (by rfl) T.z_len PySem.boot_len (pa_cons (pv 3) pa_nil)) pe_int (nomark _)) (pw_and1 (pt_cmpR op_eq (pe_callB (cr_min rfl) (by rfl) T.z_min (by decide +kernel) (pa_cons (pv 3) pa_nil)) (pv 2) (nomark _))))) (pss_one (ps_set (i := 1) sc_L_written.nd rfl (Or.inl rfl) (pe_op op_add_str (pe_op op_add_str (pe_op op_add_str (pv 1) pe_str) (pe_join pe_str (pe_lc (own := [("x", 4)]) (g := gName 4) rfl sc_L_written.nd (pi_list (pv 3)) (blkOk_by (own := [("x", 4)]) (N := N_L_written) (sc := defScope s_L_written) (by decide +kernel)) (fun _ _ _ _ _ => pg_name (i := 4) sc_L_written.nd rfl (Or.inl rfl)) (fun _ _ _ _ _ => pts_nil) (fun _ _ _ _ _ => (pe_callTy call_str_int (by rfl) T.z_str (by decide +kernel) (pa_cons (pv 4) pa_nil)))))) pe_str))) pss_nil)))))
    (pss_cons (ps_if (pt_cmpR op_eq (pv 1) pe_str (nomark _)) (pss_one (ps_ret pe_str)) pss_nil)
    (pss_one (ps_ret (pv 1))))))
theorem sc_ask_size : FnScope N_ask_size ["size"] (defScope s_ask_size) := ⟨rfl, rfl, rfl, by decide +kernel, rfl, by decide +kernel, by decide +kernel⟩
theorem ok_ask_size {f : Addr} {fd : FuncData} (T : Txt K mg g) (F : Fun K "ask_size" "ask_size" s_ask_size f fd)  : FnOk P w K mg base (L2.CX P w) 1 f fd ["size"] (sp_ask_size K g) := by
  refine F.okX sc_ask_size (fun vs H Q E h => len_ask_size K g vs H Q E h) (fun cdv A outer s H vs Q E hr h => ⟨t_ask_size K g E, ?_, pure_ask_size  vs H Q E h⟩)
  have hu := hu_of hr
  have tkE : Takes (cxOf (L2.CX P w) P w K mg base N_ask_size "ask_size" (defScope s_ask_size) f cdv A outer s H E) (wE E) := takes_of rfl rfl rfl rfl
  exact (pss_one (ps_if (PW.pt (pw_or (pt_cmpR op_lt (pv 0) pe_int (nomark _)) (pw_or1 (pt_cmpR op_gt (pv 0) (pe_globI T.c_MOST) (nomark _))))) (pss_one (ps_raise rfl tkE (pmk_own PySem.F.excBase_ValueError T.x_NoSize.ex T.x_NoSize.gC T.x_NoSize.kC (raises_own T.x_NoSize.bC T.x_NoSize.tC) rfl))) pss_nil))
theorem sc_rest : FnScope N_rest ["size"] (defScope s_rest) := ⟨rfl, rfl, rfl, by decide +kernel, rfl, by decide +kernel, by decide +kernel⟩
theorem ok_rest {f : Addr} {fd : FuncData} (T : Txt K mg g) (F : Fun K "rest" "rest" s_rest f fd) (c_ask_size : Cal P w K mg base 1 "ask_size" ["size"] (sp_ask_size K g)) : FnOk P w K mg base (L2.CX P w) 2 f fd ["size"] (sp_rest K g) := by
  refine F.okX sc_rest (fun vs H Q E h => len_rest K g vs H Q E h) (fun cdv A outer s H vs Q E hr h => ⟨t_rest K g E, ?_, pure_rest  vs H Q E h⟩)
  have hu := hu_of hr
  have tkE : Takes (cxOf (L2.CX P w) P w K mg base N_rest "rest" (defScope s_rest) f cdv A outer s H E) (wE E) := takes_of rfl rfl rfl rfl
  exact (pss_cons (ps_expr (pe_cal c_ask_size (hr.mono (by decide)) rfl (fun σ => passAt tkE σ) (pa_cons (pv 0) pa_nil)))
    (pss_one (ps_ret (pe_tupRg rfl (by rfl) T.z_tuple (prg_1 (by rfl) T.z_range (pv 0))))))
theorem sc_seat_of : FnScope N_seat_of ["word", "size"] (defScope s_seat_of) := ⟨rfl, rfl, rfl, by decide +kernel, rfl, by decide +kernel, by decide +kernel⟩
theorem ok_seat_of {f : Addr} {fd : FuncData} (T : Txt K mg g) (F : Fun K "seat_of" "seat_of" s_seat_of f fd)  : FnOk P w K mg base (L2.CX P w) 1 f fd ["word", "size"] (sp_seat_of K g) := by
  refine F.okX sc_seat_of (fun vs H Q E h => len_seat_of K g vs H Q E h) (fun cdv A outer s H vs Q E hr h => ⟨t_seat_of K g E, ?_, pure_seat_of  vs H Q E h⟩)
  have hu := hu_of hr
  have tkE : Takes (cxOf (L2.CX P w) P w K mg base N_seat_of "seat_of" (defScope s_seat_of) f cdv A outer s H E) (wE E) := takes_of rfl rfl rfl rfl
  exact (pss_cons (ps_if (PW.pt (pw_or (pt_cmpR op_eq (pv 0) pe_str (nomark _)) (pw_or (pt_cmpR op_gt (pe_callB call_len_str (by rfl) T.z_len PySem.boot_len (pa_cons (pv 0) pa_nil)) pe_int (nomark _)) (pw_or1 (PW.pt (pw_and (pt_cmpR op_eq (pe_ix ix_str (pv 0) pe_int (fun _ _ => rfl)) pe_str (nomark _)) (pw_and1 (pt_cmpR op_gt (pe_callB call_len_str (by rfl) T.z_len PySem.boot_len (pa_cons (pv 0) pa_nil)) pe_int (nomark _))))))))) (pss_one (ps_raise rfl tkE (pmk_own PySem.F.excBase_ValueError T.x_NotRead.ex T.x_NotRead.gC T.x_NotRead.kC (raises_own T.x_NotRead.bC T.x_NotRead.tC) rfl))) pss_nil)
    (pss_cons (ps_for (passes_of rfl) rfl (pi_str (pv 0)) (pg_name (i := 2) sc_seat_of.nd rfl (Or.inl rfl)) (pss_one (ps_if (pt_cmpR op_notIn_sign (pv 2) (pe_globS T.c_FIGURES) (by rfl)) (pss_one (ps_raise rfl tkE (pmk_own PySem.F.excBase_ValueError T.x_NotRead.ex T.x_NotRead.gC T.x_NotRead.kC (raises_own T.x_NotRead.bC T.x_NotRead.tC) rfl))) pss_nil)))
    (pss_cons (ps_set (i := 3) sc_seat_of.nd rfl (Or.inl rfl) (pe_callTy call_int_str (by rfl) T.z_int (by decide +kernel) (pa_cons (pv 0) pa_nil)))
    (pss_cons (ps_if (pt_cmpR op_ge (pv 3) (pv 1) (nomark _)) (pss_one (ps_raise rfl tkE (pmk_own PySem.F.excBase_ValueError T.x_NotRead.ex T.x_NotRead.gC T.x_NotRead.kC (raises_own T.x_NotRead.bC T.x_NotRead.tC) rfl))) pss_nil)
    (pss_one (ps_ret (pv 3)))))))
theorem sc_read : FnScope N_read ["text", "size"] (defScope s_read) := ⟨rfl, rfl, rfl, by decide +kernel, rfl, by decide +kernel, by decide +kernel⟩
theorem ok_read {f : Addr} {fd : FuncData} (T : Txt K mg g) (F : Fun K "read" "read" s_read f fd) (c_ask_size : Cal P w K mg base 1 "ask_size" ["size"] (sp_ask_size K g)) (c_rest : Cal P w K mg base 2 "rest" ["size"] (sp_rest K g)) (c_seat_of : Cal P w K mg base 1 "seat_of" ["word", "size"] (sp_seat_of K g)) : FnOk P w K mg base (L2.CX P w) 3 f fd ["text", "size"] (sp_read K g) := by
  refine F.okX sc_read (fun vs H Q E h => len_read K g vs H Q E h) (fun cdv A outer s H vs Q E hr h => ⟨t_read K g E, ?_, pure_read  vs H Q E h⟩)
  have hu := hu_of hr
  have tkE : Takes (cxOf (L2.CX P w) P w K mg base N_read "read" (defScope s_read) f cdv A outer s H E) (wE E) := takes_of rfl rfl rfl rfl
  exact (pss_cons (ps_expr (pe_cal c_ask_size (hr.mono (by decide)) rfl (fun σ => passAt tkE σ) (pa_cons (pv 1) pa_nil)))
    (pss_cons (ps_set (i := 2) sc_read.nd rfl (Or.inl rfl) (pe_callTy call_list_of (by rfl) T.z_list (by decide +kernel) (pa_cons (pe_cal c_rest (hr.mono (by decide)) rfl (fun σ => passAt tkE σ) (pa_cons (pv 1) pa_nil)) pa_nil)))
    (pss_cons (ps_if (pt_cmpR op_eq (pv 0) pe_str (nomark _)) (pss_one (ps_ret (pe_callTy call_tuple_of (by rfl) T.z_tuple (by decide +kernel) (pa_cons (pv 2) pa_nil)))) pss_nil)
    (pss_cons (ps_if (PW.pt (pw_or (pt_cmpR op_lt (pe_callB call_len_str (by rfl) T.z_len PySem.boot_len (pa_cons (pv 0) pa_nil)) pe_int (nomark _)) (pw_or (pt_cmpR op_ne (pe_ix ix_str (pv 0) pe_int (fun _ _ => rfl)) pe_str (nomark _)) (pw_or1 (pt_cmpR op_ne (pe_ix ix_str (pv 0) (pe_un un_neg pe_int) (fun _ _ => rfl)) pe_str (nomark _)))))) (pss_one (ps_raise rfl tkE (pmk_own PySem.F.excBase_ValueError T.x_NotRead.ex T.x_NotRead.gC T.x_NotRead.kC (raises_own T.x_NotRead.bC T.x_NotRead.tC) rfl))) pss_nil)
    (pss_cons (ps_set (i := 3) sc_read.nd rfl (Or.inl rfl) pe_dnewK)
    (pss_cons (ps_for (passes_of rfl) rfl (pi_list (pe_split (pe_slice sl_str (pv 0) (po_some pe_int) (po_some (pe_un un_neg pe_int))) pe_str)) (pg_name (i := 4) sc_read.nd rfl (Or.inl rfl)) (pss_cons (ps_setLcX (i := 5) (own := [("word", 7)]) (g := gName 7) rfl sc_read.nd rfl rfl tkE rfl rfl (sw_true rfl rfl rfl (by decide +kernel)) (pi_list (pe_split (pv 4) pe_str)) (blkOk_by (own := [("word", 7)]) (N := N_read) (sc := defScope s_read) (by decide +kernel)) (fun _ _ _ _ _ => pg_name (i := 7) sc_read.nd rfl (Or.inl rfl)) (fun _ _ _ _ _ => pts_nil) (fun _ _ _ _ _ _ hxx => (pe_cal c_seat_of (hr.mono (by decide)) rfl hxx (pa_cons (pv 7) (pa_cons (pv 1) pa_nil)))))
    (pss_cons (ps_if (pt_cmpR op_lt (pe_callB call_len_seq (by rfl) T.z_len PySem.boot_len (pa_cons (pv 5) pa_nil)) pe_int (nomark _)) (pss_one (ps_raise rfl tkE (pmk_own PySem.F.excBase_ValueError T.x_NotRead.ex T.x_NotRead.gC T.x_NotRead.kC (raises_own T.x_NotRead.bC T.x_NotRead.tC) rfl))) pss_nil)
    (pss_one (ps_for (passes_of rfl) rfl (pi_range1 (by rfl) T.z_range (pa_cons (pe_callB call_len_seq (by rfl) T.z_len PySem.boot_len (pa_cons (pv 5) pa_nil)) pa_nil)) (pg_name (i := 6) sc_read.nd rfl (Or.inl rfl)) (pss_cons (ps_if (pt_cmp (pc_din hu (pe_ix ix_list (pv 5) (pv 6) (fun _ _ => rfl)) (pv 3))) (pss_one (ps_raise rfl tkE (pmk_own PySem.F.excBase_ValueError T.x_NotRead.ex T.x_NotRead.gC T.x_NotRead.kC (raises_own T.x_NotRead.bC T.x_NotRead.tC) rfl))) pss_nil)
    (pss_cons (ps_dput hu (pv 3) (pe_ix ix_list (pv 5) (pv 6) (fun _ _ => rfl)) pe_bl rfl)
    (pss_one (ps_asg (pe_ix ix_list (pv 5) (pe_op op_modN (pe_op op_add (pv 6) pe_int) (pe_callB call_len_seq (by rfl) T.z_len PySem.boot_len (pa_cons (pv 5) pa_nil))) (fun _ _ => rfl)) (pg_sub (pv 2) (pe_ix ix_list (pv 5) (pv 6) (fun _ _ => rfl)) set_list))))))))))
    (pss_one (ps_ret (pe_callTy call_tuple_of (by rfl) T.z_tuple (by decide +kernel) (pa_cons (pv 2) pa_nil))))))))))
theorem sc_is_seating : FnScope N_is_seating ["row"] (defScope s_is_seating) := ⟨rfl, rfl, rfl, by decide +kernel, rfl, by decide +kernel, by decide +kernel⟩
theorem ok_is_seating {f : Addr} {fd : FuncData} (T : Txt K mg g) (F : Fun K "is_seating" "is_seating" s_is_seating f fd)  : FnOk P w K mg base (L2.CX P w) 1 f fd ["row"] (sp_is_seating K g) := by
  refine F.okX sc_is_seating (fun vs H Q E h => len_is_seating K g vs H Q E h) (fun cdv A outer s H vs Q E hr h => ⟨t_is_seating K g E, ?_, pure_is_seating  vs H Q E h⟩)
  have hu := hu_of hr
  have tkE : Takes (cxOf (L2.CX P w) P w K mg base N_is_seating "is_seating" (defScope s_is_seating) f cdv A outer s H E) (wE E) := takes_of rfl rfl rfl rfl
  exact (pss_cons (ps_if (PW.pt (pw_or (pt_cmpR op_lt (pe_callB call_len_seq (by rfl) T.z_len PySem.boot_len (pa_cons (pv 0) pa_nil)) pe_int (nomark _)) (pw_or1 (pt_cmpR op_gt (pe_callB call_len_seq (by rfl) T.z_len PySem.boot_len (pa_cons (pv 0) pa_nil)) (pe_globI T.c_MOST) (nomark _))))) (pss_one (ps_ret pe_bl)) pss_nil)
    (pss_cons (ps_for (passes_of rfl) rfl (pi_range1 (by rfl) T.z_range (pa_cons (pe_callB call_len_seq (by rfl) T.z_len PySem.boot_len (pa_cons (pv 0) pa_nil)) pa_nil)) (pg_name (i := 1) sc_is_seating.nd rfl (Or.inl rfl)) (pss_one (ps_if (pt_cmpR op_notIn_seq (pv 1) (pv 0) (by rfl)) (pss_one (ps_ret pe_bl)) pss_nil)))
    (pss_one (ps_ret pe_bl))))
theorem sc_ask_seating : FnScope N_ask_seating ["a"] (defScope s_ask_seating) := ⟨rfl, rfl, rfl, by decide +kernel, rfl, by decide +kernel, by decide +kernel⟩
theorem ok_ask_seating {f : Addr} {fd : FuncData} (T : Txt K mg g) (F : Fun K "ask_seating" "ask_seating" s_ask_seating f fd) (c_is_seating : Cal P w K mg base 1 "is_seating" ["row"] (sp_is_seating K g)) : FnOk P w K mg base (L2.CX P w) 2 f fd ["a"] (sp_ask_seating K g) := by
  refine F.okX sc_ask_seating (fun vs H Q E h => len_ask_seating K g vs H Q E h) (fun cdv A outer s H vs Q E hr h => ⟨t_ask_seating K g E, ?_, pure_ask_seating  vs H Q E h⟩)
  have hu := hu_of hr
  have tkE : Takes (cxOf (L2.CX P w) P w K mg base N_ask_seating "ask_seating" (defScope s_ask_seating) f cdv A outer s H E) (wE E) := takes_of rfl rfl rfl rfl
  exact (pss_one (ps_if (pt_not (pt_val (pe_cal c_is_seating (hr.mono (by decide)) rfl (fun σ => passE0 σ) (pa_cons (pv 0) pa_nil)))) (pss_one (ps_raise rfl tkE (pmk_own PySem.F.excBase_ValueError T.x_NoSeating.ex T.x_NoSeating.gC T.x_NoSeating.kC (raises_own T.x_NoSeating.bC T.x_NoSeating.tC) rfl))) pss_nil))
theorem sc_rings : FnScope N_rings ["a"] (defScope s_rings) := ⟨rfl, rfl, rfl, by decide +kernel, rfl, by decide +kernel, by decide +kernel⟩
theorem ok_rings {f : Addr} {fd : FuncData} (T : Txt K mg g) (F : Fun K "rings" "rings" s_rings f fd) (c_ask_seating : Cal P w K mg base 2 "ask_seating" ["a"] (sp_ask_seating K g)) : FnOk P w K mg base (L2.CX P w) 3 f fd ["a"] (sp_rings K g) := by
  refine F.okX sc_rings (fun vs H Q E h => len_rings K g vs H Q E h) (fun cdv A outer s H vs Q E hr h => ⟨t_rings K g E, ?_, pure_rings  vs H Q E h⟩)
  have hu := hu_of hr
  have tkE : Takes (cxOf (L2.CX P w) P w K mg base N_rings "rings" (defScope s_rings) f cdv A outer s H E) (wE E) := takes_of rfl rfl rfl rfl
  exact (pss_cons (ps_expr (pe_cal c_ask_seating (hr.mono (by decide)) rfl (fun σ => passAt tkE σ) (pa_cons (pv 0) pa_nil)))
    (pss_cons (ps_set (i := 1) sc_rings.nd rfl (Or.inl rfl) (pe_lst pa_nil))
    (pss_cons (ps_set (i := 2) sc_rings.nd rfl (Or.inl rfl) pe_dnewK)
    (pss_cons (ps_for (passes_of rfl) rfl (pi_range1 (by rfl) T.z_range (pa_cons (pe_callB call_len_seq (by rfl) T.z_len PySem.boot_len (pa_cons (pv 0) pa_nil)) pa_nil)) (pg_name (i := 3) sc_rings.nd rfl (Or.inl rfl)) (pss_one (ps_if (pt_cmp (pc_dnotin hu (pv 3) (pv 2))) (pss_cons (ps_set (i := 4) sc_rings.nd rfl (Or.inl rfl) (pe_lst (pa_cons (pv 3) pa_nil)))
    (pss_cons (ps_set (i := 5) sc_rings.nd rfl (Or.inl rfl) (pe_ix ix_tup (pv 0) (pv 3) (fun _ _ => rfl)))
    (pss_cons (ps_while (passes_of rfl) (pt_cmpR op_ne (pv 5) (pv 3) (nomark _)) (pss_cons (ps_expr (pe_bm PySem.F.plainAttrs_list PySem.F.slot_list_append PySem.F.type_list_append mt_append (pv 4) (pa_cons (pv 5) pa_nil)))
    (pss_cons (ps_dput hu (pv 2) (pv 5) pe_bl rfl)
    (pss_one (ps_set (i := 5) sc_rings.nd rfl (Or.inl rfl) (pe_ix ix_tup (pv 0) (pv 5) (fun _ _ => rfl)))))))
    (pss_one (ps_if (pt_cmpR op_gt (pe_callB call_len_seq (by rfl) T.z_len PySem.boot_len (pa_cons (pv 4) pa_nil)) pe_int (nomark _)) (pss_one (ps_expr (pe_bm PySem.F.plainAttrs_list PySem.F.slot_list_append PySem.F.type_list_append mt_append (pv 1) (pa_cons (pe_callTy call_tuple_of (by rfl) T.z_tuple (by decide +kernel) (pa_cons (pv 4) pa_nil)) pa_nil)))) pss_nil))))) pss_nil)))
    (pss_one (ps_ret (pv 1)))))))
theorem sc_shown : FnScope N_shown ["a"] (defScope s_shown) := ⟨rfl, rfl, rfl, by decide +kernel, rfl, by decide +kernel, by decide +kernel⟩
theorem ok_shown {f : Addr} {fd : FuncData} (T : Txt K mg g) (F : Fun K "shown" "shown" s_shown f fd) (c_rings : Cal P w K mg base 3 "rings" ["a"] (sp_rings K g)) : FnOk P w K mg base (L2.CX P w) 4 f fd ["a"] (sp_shown K g) := by
  refine F.okX sc_shown (fun vs H Q E h => len_shown K g vs H Q E h) (fun cdv A outer s H vs Q E hr h => ⟨t_shown K g E, ?_, pure_shown  vs H Q E h⟩)
  have hu := hu_of hr
  have tkE : Takes (cxOf (L2.CX P w) P w K mg base N_shown "shown" (defScope s_shown) f cdv A outer s H E) (wE E) := takes_of rfl rfl rfl rfl
  exact (pss_cons (ps_set (i := 1) sc_shown.nd rfl (Or.inl rfl) pe_str)
    (pss_cons (ps_for (passes_of rfl) rfl (pi_list (pe_cal c_rings (hr.mono (by decide)) rfl (fun σ => passAt tkE σ) (pa_cons (pv 0) pa_nil))) (pg_name (i := 2) sc_shown.nd rfl (Or.inl rfl)) (pss_one (ps_set (i := 1) sc_shown.nd rfl (Or.inl rfl) (pe_op op_add_str (pe_op op_add_str (pe_op op_add_str (pv 1) pe_str) (pe_join pe_str (pe_lc (own := [("k", 3)]) (g := gName 3) rfl sc_shown.nd (pi_tup (pv 2)) (blkOk_by (own := [("k", 3)]) (N := N_shown) (sc := defScope s_shown) (by decide +kernel)) (fun _ _ _ _ _ => pg_name (i := 3) sc_shown.nd rfl (Or.inl rfl)) (fun _ _ _ _ _ => pts_nil) (fun _ _ _ _ _ => (pe_callTy call_str_int (by rfl) T.z_str (by decide +kernel) (pa_cons (pv 3) pa_nil)))))) pe_str))))
    (pss_cons (ps_if (pt_cmpR op_eq (pv 1) pe_str (nomark _)) (pss_one (ps_ret pe_str)) pss_nil)
    (pss_one (ps_ret (pv 1))))))
theorem sc_law_k07 : FnScope N_law_k07 ["script"] (defScope s_law_k07) := ⟨rfl, rfl, rfl, by decide +kernel, rfl, by decide +kernel, by decide +kernel⟩
theorem ok_law_k07 {f : Addr} {fd : FuncData} (T : Txt K mg g) (F : Fun K "law" "law" s_law_k07 f fd) (c_L_cell_at : Cal P w K mg base 1 "_law_cell_at" ["script", "k"] (sp_L_cell_at K g)) (c_L_far : Cal P w K mg base 1 "_law_far" ["cell", "size"] (sp_L_far K g)) (c_L_same : Cal P w K mg base 2 "_law_same" ["found", "due"] (sp_L_same K g)) (c_L_seating : Cal P w K mg base 1 "_law_seating" ["cell", "size"] (sp_L_seating K g)) (c_L_written : Cal P w K mg base 1 "_law_written" ["a"] (sp_L_written K g)) (c_read : Cal P w K mg base 3 "read" ["text", "size"] (sp_read K g)) (c_shown : Cal P w K mg base 4 "shown" ["a"] (sp_shown K g)) : FnOk P w K mg base (L2.CX P w) 5 f fd ["script"] (sp_law K) := by
  refine F.okX sc_law_k07 (fun vs H Q E h => len_law K g vs H Q E h) (fun cdv A outer s H vs Q E hr h => ⟨t_law_k07 K g E, ?_, pure_law_k07  vs H Q E h⟩)
  have hu := hu_of hr
  have tkE : Takes (cxOf (L2.CX P w) P w K mg base N_law_k07 "law" (defScope s_law_k07) f cdv A outer s H E) (wE E) := takes_of rfl rfl rfl rfl
  exact (pss_cons (ps_set (i := 1) sc_law_k07.nd rfl (Or.inl rfl) (pe_op op_add pe_int (pe_op op_modN (pe_cal c_L_cell_at (hr.mono (by decide)) rfl (fun σ => passE0 σ) (pa_cons (pv 0) (pa_cons pe_int pa_nil))) pe_int)))
    (pss_cons (ps_set (i := 2) sc_law_k07.nd rfl (Or.inl rfl) (pe_cal c_L_seating (hr.mono (by decide)) rfl (fun σ => passE0 σ) (pa_cons (pe_cal c_L_cell_at (hr.mono (by decide)) rfl (fun σ => passE0 σ) (pa_cons (pv 0) (pa_cons pe_int pa_nil))) (pa_cons (pv 1) pa_nil))))
    (pss_cons (ps_if (pt_cmpR op_gt (pv 1) pe_int (nomark _)) (pss_one (ps_set (i := 2) sc_law_k07.nd rfl (Or.inl rfl) (pe_cal c_L_far (hr.mono (by decide)) rfl (fun σ => passE0 σ) (pa_cons (pe_cal c_L_cell_at (hr.mono (by decide)) rfl (fun σ => passE0 σ) (pa_cons (pv 0) (pa_cons pe_int pa_nil))) (pa_cons (pv 1) pa_nil))))) pss_nil)
    (pss_cons (ps_if (pt_cmpR op_eq (pe_op op_modN (pe_cal c_L_cell_at (hr.mono (by decide)) rfl (fun σ => passE0 σ) (pa_cons (pv 0) (pa_cons pe_int pa_nil))) pe_int) pe_int (nomark _)) (pss_one (ps_set (i := 2) sc_law_k07.nd rfl (Or.inl rfl) (pe_tupRg rfl (by rfl) T.z_tuple (prg_1 (by rfl) T.z_range (pv 1))))) pss_nil)
    (pss_cons (ps_set (i := 3) sc_law_k07.nd rfl (Or.inl rfl) (pe_cal c_shown (hr.mono (by decide)) rfl (fun σ => passAt tkE σ) (pa_cons (pv 2) pa_nil)))
    (pss_cons (ps_if (PW.pt (pw_or (pt_not (pt_val (pe_callB call_isi (by rfl) T.z_isinstance (by decide +kernel) (pa_cons (pv 3) (pa_cons (pe_bltn (by rfl) T.z_str (by decide +kernel) rfl) pa_nil))))) (pw_or1 (pt_cmpR op_ne (pv 3) (pe_cal c_L_written (hr.mono (by decide)) rfl (fun σ => passE0 σ) (pa_cons (pv 2) pa_nil)) (nomark _))))) (pss_one (ps_ret pe_bl)) pss_nil)
    (pss_one (ps_ret (pe_cal c_L_same (hr.mono (by decide)) rfl (fun σ => passE0 σ) (pa_cons (pe_cal c_read (hr.mono (by decide)) rfl (fun σ => passAt tkE σ) (pa_cons (pv 3) (pa_cons (pv 1) pa_nil))) (pa_cons (pv 2) pa_nil)))))))))))
end
theorem all_mk {l : PySem.W.OpenLaw} {w : World} {K : PySem.W.Frag} {h : Heap} {mg : Str → Option Value} {fa : Addr} {D_NoSeating : Addr} {D_NoSize : Addr} {D_NotRead : Addr} (X : K.In h) (G : h.Ns mainGlobals mg) (hfa : mg "law" = some (.ref fa))
    {tk_FIGURES : Tok}
    {tk_MOST : Tok}
    {f_L_cell_at : Addr} {od_L_cell_at an_L_cell_at : Option Addr} {sl_L_cell_at : Array (Option Value)} {oc_L_cell_at kV_L_cell_at dc_L_cell_at pm_L_cell_at cd_L_cell_at ct_L_cell_at : Value}
    {f_L_far : Addr} {od_L_far an_L_far : Option Addr} {sl_L_far : Array (Option Value)} {oc_L_far kV_L_far dc_L_far pm_L_far cd_L_far ct_L_far : Value}
    {f_L_whole : Addr} {od_L_whole an_L_whole : Option Addr} {sl_L_whole : Array (Option Value)} {oc_L_whole kV_L_whole dc_L_whole pm_L_whole cd_L_whole ct_L_whole : Value}
    {f_L_same : Addr} {od_L_same an_L_same : Option Addr} {sl_L_same : Array (Option Value)} {oc_L_same kV_L_same dc_L_same pm_L_same cd_L_same ct_L_same : Value}
    {f_L_seating : Addr} {od_L_seating an_L_seating : Option Addr} {sl_L_seating : Array (Option Value)} {oc_L_seating kV_L_seating dc_L_seating pm_L_seating cd_L_seating ct_L_seating : Value}
    {f_L_written : Addr} {od_L_written an_L_written : Option Addr} {sl_L_written : Array (Option Value)} {oc_L_written kV_L_written dc_L_written pm_L_written cd_L_written ct_L_written : Value}
    {f_ask_size : Addr} {od_ask_size an_ask_size : Option Addr} {sl_ask_size : Array (Option Value)} {oc_ask_size kV_ask_size dc_ask_size pm_ask_size cd_ask_size ct_ask_size : Value}
    {f_rest : Addr} {od_rest an_rest : Option Addr} {sl_rest : Array (Option Value)} {oc_rest kV_rest dc_rest pm_rest cd_rest ct_rest : Value}
    {f_seat_of : Addr} {od_seat_of an_seat_of : Option Addr} {sl_seat_of : Array (Option Value)} {oc_seat_of kV_seat_of dc_seat_of pm_seat_of cd_seat_of ct_seat_of : Value}
    {f_read : Addr} {od_read an_read : Option Addr} {sl_read : Array (Option Value)} {oc_read kV_read dc_read pm_read cd_read ct_read : Value}
    {f_is_seating : Addr} {od_is_seating an_is_seating : Option Addr} {sl_is_seating : Array (Option Value)} {oc_is_seating kV_is_seating dc_is_seating pm_is_seating cd_is_seating ct_is_seating : Value}
    {f_ask_seating : Addr} {od_ask_seating an_ask_seating : Option Addr} {sl_ask_seating : Array (Option Value)} {oc_ask_seating kV_ask_seating dc_ask_seating pm_ask_seating cd_ask_seating ct_ask_seating : Value}
    {f_rings : Addr} {od_rings an_rings : Option Addr} {sl_rings : Array (Option Value)} {oc_rings kV_rings dc_rings pm_rings cd_rings ct_rings : Value}
    {f_shown : Addr} {od_shown an_shown : Option Addr} {sl_shown : Array (Option Value)} {oc_shown kV_shown dc_shown pm_shown cd_shown ct_shown : Value}
    {f_law_k07 : Addr} {od_law_k07 an_law_k07 : Option Addr} {sl_law_k07 : Array (Option Value)} {oc_law_k07 kV_law_k07 dc_law_k07 pm_law_k07 cd_law_k07 ct_law_k07 : Value}
    (z_bool : PySem.W.nsIn K mainGlobals "bool" = some none)
    (z_int : PySem.W.nsIn K mainGlobals "int" = some none)
    (z_isinstance : PySem.W.nsIn K mainGlobals "isinstance" = some none)
    (z_len : PySem.W.nsIn K mainGlobals "len" = some none)
    (z_list : PySem.W.nsIn K mainGlobals "list" = some none)
    (z_min : PySem.W.nsIn K mainGlobals "min" = some none)
    (z_range : PySem.W.nsIn K mainGlobals "range" = some none)
    (z_str : PySem.W.nsIn K mainGlobals "str" = some none)
    (z_tuple : PySem.W.nsIn K mainGlobals "tuple" = some none)
    (c_FIGURES : PySem.W.nsIn K mainGlobals "FIGURES" = some (some (.str "0123456789" tk_FIGURES)))
    (c_MOST : PySem.W.nsIn K mainGlobals "MOST" = some (some (.int 16 tk_MOST)))
    (ga_NoSeating : PySem.W.nsIn K mainGlobals "NoSeating" = some (some (.ref D_NoSeating)))
    (xe_NoSeating : PySem.W.excIn K D_NoSeating [.type "ValueError", .type "Exception", .type "BaseException", .type "object"] "ValueError.__new__" = true)
    (xk_NoSeating : PySem.W.keepIn K (.ref D_NoSeating) = true)
    (xb_NoSeating : PySem.W.subIn K (.ref D_NoSeating) (.type "BaseException") = some true)
    (xt_NoSeating : PySem.W.typeIn K (.ref D_NoSeating) = some (.type "type"))
    (ga_NoSize : PySem.W.nsIn K mainGlobals "NoSize" = some (some (.ref D_NoSize)))
    (xe_NoSize : PySem.W.excIn K D_NoSize [.type "ValueError", .type "Exception", .type "BaseException", .type "object"] "ValueError.__new__" = true)
    (xk_NoSize : PySem.W.keepIn K (.ref D_NoSize) = true)
    (xb_NoSize : PySem.W.subIn K (.ref D_NoSize) (.type "BaseException") = some true)
    (xt_NoSize : PySem.W.typeIn K (.ref D_NoSize) = some (.type "type"))
    (ga_NotRead : PySem.W.nsIn K mainGlobals "NotRead" = some (some (.ref D_NotRead)))
    (xe_NotRead : PySem.W.excIn K D_NotRead [.type "ValueError", .type "Exception", .type "BaseException", .type "object"] "ValueError.__new__" = true)
    (xk_NotRead : PySem.W.keepIn K (.ref D_NotRead) = true)
    (xb_NotRead : PySem.W.subIn K (.ref D_NotRead) (.type "BaseException") = some true)
    (xt_NotRead : PySem.W.typeIn K (.ref D_NotRead) = some (.type "type"))
    (a_L_cell_at : PySem.W.nsIn K mainGlobals "_law_cell_at" = some (some (.ref f_L_cell_at)))
    (l_L_cell_at : K.lookup f_L_cell_at = some ⟨oc_L_cell_at, od_L_cell_at, .func (PySem.W.fnOf "_law_cell_at" "_law_cell_at" (defArgs s_L_cell_at) (defBody s_L_cell_at) (defScope s_L_cell_at) .none kV_L_cell_at dc_L_cell_at pm_L_cell_at an_L_cell_at cd_L_cell_at ct_L_cell_at), sl_L_cell_at⟩)
    (co_L_cell_at : PySem.W.codeIn K cd_L_cell_at "_law_cell_at" = true)
    (ke_L_cell_at : PySem.W.keepIn K (.ref f_L_cell_at) = true)
    (a_L_far : PySem.W.nsIn K mainGlobals "_law_far" = some (some (.ref f_L_far)))
    (l_L_far : K.lookup f_L_far = some ⟨oc_L_far, od_L_far, .func (PySem.W.fnOf "_law_far" "_law_far" (defArgs s_L_far) (defBody s_L_far) (defScope s_L_far) .none kV_L_far dc_L_far pm_L_far an_L_far cd_L_far ct_L_far), sl_L_far⟩)
    (co_L_far : PySem.W.codeIn K cd_L_far "_law_far" = true)
    (ke_L_far : PySem.W.keepIn K (.ref f_L_far) = true)
    (a_L_whole : PySem.W.nsIn K mainGlobals "_law_whole" = some (some (.ref f_L_whole)))
    (l_L_whole : K.lookup f_L_whole = some ⟨oc_L_whole, od_L_whole, .func (PySem.W.fnOf "_law_whole" "_law_whole" (defArgs s_L_whole) (defBody s_L_whole) (defScope s_L_whole) .none kV_L_whole dc_L_whole pm_L_whole an_L_whole cd_L_whole ct_L_whole), sl_L_whole⟩)
    (co_L_whole : PySem.W.codeIn K cd_L_whole "_law_whole" = true)
    (ke_L_whole : PySem.W.keepIn K (.ref f_L_whole) = true)
    (a_L_same : PySem.W.nsIn K mainGlobals "_law_same" = some (some (.ref f_L_same)))
    (l_L_same : K.lookup f_L_same = some ⟨oc_L_same, od_L_same, .func (PySem.W.fnOf "_law_same" "_law_same" (defArgs s_L_same) (defBody s_L_same) (defScope s_L_same) .none kV_L_same dc_L_same pm_L_same an_L_same cd_L_same ct_L_same), sl_L_same⟩)
    (co_L_same : PySem.W.codeIn K cd_L_same "_law_same" = true)
    (ke_L_same : PySem.W.keepIn K (.ref f_L_same) = true)
    (a_L_seating : PySem.W.nsIn K mainGlobals "_law_seating" = some (some (.ref f_L_seating)))
    (l_L_seating : K.lookup f_L_seating = some ⟨oc_L_seating, od_L_seating, .func (PySem.W.fnOf "_law_seating" "_law_seating" (defArgs s_L_seating) (defBody s_L_seating) (defScope s_L_seating) .none kV_L_seating dc_L_seating pm_L_seating an_L_seating cd_L_seating ct_L_seating), sl_L_seating⟩)
    (co_L_seating : PySem.W.codeIn K cd_L_seating "_law_seating" = true)
    (ke_L_seating : PySem.W.keepIn K (.ref f_L_seating) = true)
    (a_L_written : PySem.W.nsIn K mainGlobals "_law_written" = some (some (.ref f_L_written)))
    (l_L_written : K.lookup f_L_written = some ⟨oc_L_written, od_L_written, .func (PySem.W.fnOf "_law_written" "_law_written" (defArgs s_L_written) (defBody s_L_written) (defScope s_L_written) .none kV_L_written dc_L_written pm_L_written an_L_written cd_L_written ct_L_written), sl_L_written⟩)
    (co_L_written : PySem.W.codeIn K cd_L_written "_law_written" = true)
    (ke_L_written : PySem.W.keepIn K (.ref f_L_written) = true)
    (a_ask_size : PySem.W.nsIn K mainGlobals "ask_size" = some (some (.ref f_ask_size)))
    (l_ask_size : K.lookup f_ask_size = some ⟨oc_ask_size, od_ask_size, .func (PySem.W.fnOf "ask_size" "ask_size" (defArgs s_ask_size) (defBody s_ask_size) (defScope s_ask_size) .none kV_ask_size dc_ask_size pm_ask_size an_ask_size cd_ask_size ct_ask_size), sl_ask_size⟩)
    (co_ask_size : PySem.W.codeIn K cd_ask_size "ask_size" = true)
    (ke_ask_size : PySem.W.keepIn K (.ref f_ask_size) = true)
    (a_rest : PySem.W.nsIn K mainGlobals "rest" = some (some (.ref f_rest)))
    (l_rest : K.lookup f_rest = some ⟨oc_rest, od_rest, .func (PySem.W.fnOf "rest" "rest" (defArgs s_rest) (defBody s_rest) (defScope s_rest) .none kV_rest dc_rest pm_rest an_rest cd_rest ct_rest), sl_rest⟩)
    (co_rest : PySem.W.codeIn K cd_rest "rest" = true)
    (ke_rest : PySem.W.keepIn K (.ref f_rest) = true)
    (a_seat_of : PySem.W.nsIn K mainGlobals "seat_of" = some (some (.ref f_seat_of)))
    (l_seat_of : K.lookup f_seat_of = some ⟨oc_seat_of, od_seat_of, .func (PySem.W.fnOf "seat_of" "seat_of" (defArgs s_seat_of) (defBody s_seat_of) (defScope s_seat_of) .none kV_seat_of dc_seat_of pm_seat_of an_seat_of cd_seat_of ct_seat_of), sl_seat_of⟩)
    (co_seat_of : PySem.W.codeIn K cd_seat_of "seat_of" = true)
    (ke_seat_of : PySem.W.keepIn K (.ref f_seat_of) = true)
    (a_read : PySem.W.nsIn K mainGlobals "read" = some (some (.ref f_read)))
    (l_read : K.lookup f_read = some ⟨oc_read, od_read, .func (PySem.W.fnOf "read" "read" (defArgs s_read) (defBody s_read) (defScope s_read) .none kV_read dc_read pm_read an_read cd_read ct_read), sl_read⟩)
    (co_read : PySem.W.codeIn K cd_read "read" = true)
    (ke_read : PySem.W.keepIn K (.ref f_read) = true)
    (a_is_seating : PySem.W.nsIn K mainGlobals "is_seating" = some (some (.ref f_is_seating)))
    (l_is_seating : K.lookup f_is_seating = some ⟨oc_is_seating, od_is_seating, .func (PySem.W.fnOf "is_seating" "is_seating" (defArgs s_is_seating) (defBody s_is_seating) (defScope s_is_seating) .none kV_is_seating dc_is_seating pm_is_seating an_is_seating cd_is_seating ct_is_seating), sl_is_seating⟩)
    (co_is_seating : PySem.W.codeIn K cd_is_seating "is_seating" = true)
    (ke_is_seating : PySem.W.keepIn K (.ref f_is_seating) = true)
    (a_ask_seating : PySem.W.nsIn K mainGlobals "ask_seating" = some (some (.ref f_ask_seating)))
    (l_ask_seating : K.lookup f_ask_seating = some ⟨oc_ask_seating, od_ask_seating, .func (PySem.W.fnOf "ask_seating" "ask_seating" (defArgs s_ask_seating) (defBody s_ask_seating) (defScope s_ask_seating) .none kV_ask_seating dc_ask_seating pm_ask_seating an_ask_seating cd_ask_seating ct_ask_seating), sl_ask_seating⟩)
    (co_ask_seating : PySem.W.codeIn K cd_ask_seating "ask_seating" = true)
    (ke_ask_seating : PySem.W.keepIn K (.ref f_ask_seating) = true)
    (a_rings : PySem.W.nsIn K mainGlobals "rings" = some (some (.ref f_rings)))
    (l_rings : K.lookup f_rings = some ⟨oc_rings, od_rings, .func (PySem.W.fnOf "rings" "rings" (defArgs s_rings) (defBody s_rings) (defScope s_rings) .none kV_rings dc_rings pm_rings an_rings cd_rings ct_rings), sl_rings⟩)
    (co_rings : PySem.W.codeIn K cd_rings "rings" = true)
    (ke_rings : PySem.W.keepIn K (.ref f_rings) = true)
    (a_shown : PySem.W.nsIn K mainGlobals "shown" = some (some (.ref f_shown)))
    (l_shown : K.lookup f_shown = some ⟨oc_shown, od_shown, .func (PySem.W.fnOf "shown" "shown" (defArgs s_shown) (defBody s_shown) (defScope s_shown) .none kV_shown dc_shown pm_shown an_shown cd_shown ct_shown), sl_shown⟩)
    (co_shown : PySem.W.codeIn K cd_shown "shown" = true)
    (ke_shown : PySem.W.keepIn K (.ref f_shown) = true)
    (a_law_k07 : PySem.W.nsIn K mainGlobals "law" = some (some (.ref f_law_k07)))
    (l_law_k07 : K.lookup f_law_k07 = some ⟨oc_law_k07, od_law_k07, .func (PySem.W.fnOf "law" "law" (defArgs s_law_k07) (defBody s_law_k07) (defScope s_law_k07) .none kV_law_k07 dc_law_k07 pm_law_k07 an_law_k07 cd_law_k07 ct_law_k07), sl_law_k07⟩)
    (co_law_k07 : PySem.W.codeIn K cd_law_k07 "law" = true)
    (ke_law_k07 : PySem.W.keepIn K (.ref f_law_k07) = true) :
    ∃ fd : FuncData, (∀ (s : Shared) (v : Value), BindsTo s fd ⟨[v], []⟩ [("script", v)]) ∧ ∀ base : Heap, K.In base → base.Ns mainGlobals mg → FnOk l.prog w K mg base (L2.CX l.prog w) 5 fa fd ["script"] (sp_law K) := by
  have e := hfa.symm.trans (PySem.W.mg_of X G a_law_k07)
  cases e
  have T : Txt K mg { w := w, NoSeating := D_NoSeating, NoSize := D_NoSize, NotRead := D_NotRead } := {
    z_bool := PySem.W.mg_none_of X G z_bool
    z_int := PySem.W.mg_none_of X G z_int
    z_isinstance := PySem.W.mg_none_of X G z_isinstance
    z_len := PySem.W.mg_none_of X G z_len
    z_list := PySem.W.mg_none_of X G z_list
    z_min := PySem.W.mg_none_of X G z_min
    z_range := PySem.W.mg_none_of X G z_range
    z_str := PySem.W.mg_none_of X G z_str
    z_tuple := PySem.W.mg_none_of X G z_tuple
    c_FIGURES := ⟨_, PySem.W.mg_of X G c_FIGURES⟩
    c_MOST := ⟨_, PySem.W.mg_of X G c_MOST⟩
    g_NoSeating := PySem.W.mg_of X G ga_NoSeating
    g_NoSize := PySem.W.mg_of X G ga_NoSize
    g_NotRead := PySem.W.mg_of X G ga_NotRead
    x_NoSeating := ⟨PySem.W.mg_of X G ga_NoSeating, xe_NoSeating, xk_NoSeating, xb_NoSeating, xt_NoSeating⟩
    x_NoSize := ⟨PySem.W.mg_of X G ga_NoSize, xe_NoSize, xk_NoSize, xb_NoSize, xt_NoSize⟩
    x_NotRead := ⟨PySem.W.mg_of X G ga_NotRead, xe_NotRead, xk_NotRead, xb_NotRead, xt_NotRead⟩
  }
  have F_L_cell_at := fun_mk (st := s_L_cell_at) l_L_cell_at co_L_cell_at ke_L_cell_at
  have b_L_cell_at := F_L_cell_at.binds (ps := ["script", "k"]) fun _ _ _ _ _ _ us hl => match us, hl with | [_, _], _ => rfl
  have F_L_far := fun_mk (st := s_L_far) l_L_far co_L_far ke_L_far
  have b_L_far := F_L_far.binds (ps := ["cell", "size"]) fun _ _ _ _ _ _ us hl => match us, hl with | [_, _], _ => rfl
  have F_L_whole := fun_mk (st := s_L_whole) l_L_whole co_L_whole ke_L_whole
  have b_L_whole := F_L_whole.binds (ps := ["found"]) fun _ _ _ _ _ _ us hl => match us, hl with | [_], _ => rfl
  have F_L_same := fun_mk (st := s_L_same) l_L_same co_L_same ke_L_same
  have b_L_same := F_L_same.binds (ps := ["found", "due"]) fun _ _ _ _ _ _ us hl => match us, hl with | [_, _], _ => rfl
  have F_L_seating := fun_mk (st := s_L_seating) l_L_seating co_L_seating ke_L_seating
  have b_L_seating := F_L_seating.binds (ps := ["cell", "size"]) fun _ _ _ _ _ _ us hl => match us, hl with | [_, _], _ => rfl
  have F_L_written := fun_mk (st := s_L_written) l_L_written co_L_written ke_L_written
  have b_L_written := F_L_written.binds (ps := ["a"]) fun _ _ _ _ _ _ us hl => match us, hl with | [_], _ => rfl
  have F_ask_size := fun_mk (st := s_ask_size) l_ask_size co_ask_size ke_ask_size
  have b_ask_size := F_ask_size.binds (ps := ["size"]) fun _ _ _ _ _ _ us hl => match us, hl with | [_], _ => rfl
  have F_rest := fun_mk (st := s_rest) l_rest co_rest ke_rest
  have b_rest := F_rest.binds (ps := ["size"]) fun _ _ _ _ _ _ us hl => match us, hl with | [_], _ => rfl
  have F_seat_of := fun_mk (st := s_seat_of) l_seat_of co_seat_of ke_seat_of
  have b_seat_of := F_seat_of.binds (ps := ["word", "size"]) fun _ _ _ _ _ _ us hl => match us, hl with | [_, _], _ => rfl
  have F_read := fun_mk (st := s_read) l_read co_read ke_read
  have b_read := F_read.binds (ps := ["text", "size"]) fun _ _ _ _ _ _ us hl => match us, hl with | [_, _], _ => rfl
  have F_is_seating := fun_mk (st := s_is_seating) l_is_seating co_is_seating ke_is_seating
  have b_is_seating := F_is_seating.binds (ps := ["row"]) fun _ _ _ _ _ _ us hl => match us, hl with | [_], _ => rfl
  have F_ask_seating := fun_mk (st := s_ask_seating) l_ask_seating co_ask_seating ke_ask_seating
  have b_ask_seating := F_ask_seating.binds (ps := ["a"]) fun _ _ _ _ _ _ us hl => match us, hl with | [_], _ => rfl
  have F_rings := fun_mk (st := s_rings) l_rings co_rings ke_rings
  have b_rings := F_rings.binds (ps := ["a"]) fun _ _ _ _ _ _ us hl => match us, hl with | [_], _ => rfl
  have F_shown := fun_mk (st := s_shown) l_shown co_shown ke_shown
  have b_shown := F_shown.binds (ps := ["a"]) fun _ _ _ _ _ _ us hl => match us, hl with | [_], _ => rfl
  have F_law_k07 := fun_mk (st := s_law_k07) l_law_k07 co_law_k07 ke_law_k07
  refine ⟨PySem.W.fnOf "law" "law" (defArgs s_law_k07) (defBody s_law_k07) (defScope s_law_k07) .none kV_law_k07 dc_law_k07 pm_law_k07 an_law_k07 cd_law_k07 ct_law_k07, fun s v => .of_eq rfl, fun base _ _ => ?_⟩
  have c_L_cell_at : Cal l.prog w K mg base 1 "_law_cell_at" ["script", "k"] (sp_L_cell_at K _) := ⟨_, _, PySem.W.mg_of X G a_L_cell_at, ke_L_cell_at, b_L_cell_at, ok_L_cell_at (P := l.prog) (w := w) (base := base) T F_L_cell_at ⟩
  have c_L_far : Cal l.prog w K mg base 1 "_law_far" ["cell", "size"] (sp_L_far K _) := ⟨_, _, PySem.W.mg_of X G a_L_far, ke_L_far, b_L_far, ok_L_far (P := l.prog) (w := w) (base := base) T F_L_far ⟩
  have c_L_whole : Cal l.prog w K mg base 1 "_law_whole" ["found"] (sp_L_whole K _) := ⟨_, _, PySem.W.mg_of X G a_L_whole, ke_L_whole, b_L_whole, ok_L_whole (P := l.prog) (w := w) (base := base) T F_L_whole ⟩
  have c_L_same : Cal l.prog w K mg base 2 "_law_same" ["found", "due"] (sp_L_same K _) := ⟨_, _, PySem.W.mg_of X G a_L_same, ke_L_same, b_L_same, ok_L_same (P := l.prog) (w := w) (base := base) T F_L_same c_L_whole⟩
  have c_L_seating : Cal l.prog w K mg base 1 "_law_seating" ["cell", "size"] (sp_L_seating K _) := ⟨_, _, PySem.W.mg_of X G a_L_seating, ke_L_seating, b_L_seating, ok_L_seating (P := l.prog) (w := w) (base := base) T F_L_seating ⟩
  have c_L_written : Cal l.prog w K mg base 1 "_law_written" ["a"] (sp_L_written K _) := ⟨_, _, PySem.W.mg_of X G a_L_written, ke_L_written, b_L_written, ok_L_written (P := l.prog) (w := w) (base := base) T F_L_written ⟩
  have c_ask_size : Cal l.prog w K mg base 1 "ask_size" ["size"] (sp_ask_size K _) := ⟨_, _, PySem.W.mg_of X G a_ask_size, ke_ask_size, b_ask_size, ok_ask_size (P := l.prog) (w := w) (base := base) T F_ask_size ⟩
  have c_rest : Cal l.prog w K mg base 2 "rest" ["size"] (sp_rest K _) := ⟨_, _, PySem.W.mg_of X G a_rest, ke_rest, b_rest, ok_rest (P := l.prog) (w := w) (base := base) T F_rest c_ask_size⟩
  have c_seat_of : Cal l.prog w K mg base 1 "seat_of" ["word", "size"] (sp_seat_of K _) := ⟨_, _, PySem.W.mg_of X G a_seat_of, ke_seat_of, b_seat_of, ok_seat_of (P := l.prog) (w := w) (base := base) T F_seat_of ⟩
  have c_read : Cal l.prog w K mg base 3 "read" ["text", "size"] (sp_read K _) := ⟨_, _, PySem.W.mg_of X G a_read, ke_read, b_read, ok_read (P := l.prog) (w := w) (base := base) T F_read c_ask_size c_rest c_seat_of⟩
  have c_is_seating : Cal l.prog w K mg base 1 "is_seating" ["row"] (sp_is_seating K _) := ⟨_, _, PySem.W.mg_of X G a_is_seating, ke_is_seating, b_is_seating, ok_is_seating (P := l.prog) (w := w) (base := base) T F_is_seating ⟩
  have c_ask_seating : Cal l.prog w K mg base 2 "ask_seating" ["a"] (sp_ask_seating K _) := ⟨_, _, PySem.W.mg_of X G a_ask_seating, ke_ask_seating, b_ask_seating, ok_ask_seating (P := l.prog) (w := w) (base := base) T F_ask_seating c_is_seating⟩
  have c_rings : Cal l.prog w K mg base 3 "rings" ["a"] (sp_rings K _) := ⟨_, _, PySem.W.mg_of X G a_rings, ke_rings, b_rings, ok_rings (P := l.prog) (w := w) (base := base) T F_rings c_ask_seating⟩
  have c_shown : Cal l.prog w K mg base 4 "shown" ["a"] (sp_shown K _) := ⟨_, _, PySem.W.mg_of X G a_shown, ke_shown, b_shown, ok_shown (P := l.prog) (w := w) (base := base) T F_shown c_rings⟩
  exact ok_law_k07 (P := l.prog) (w := w) (base := base) T F_law_k07 c_L_cell_at c_L_far c_L_same c_L_seating c_L_written c_read c_shown
theorem walk {l : PySem.W.OpenLaw} {q : Program} {loose : List Str} {XP : (Str → Option Value) → Heap → Prop} {YP : World → Heap → Prop} {d : DefRec} {K : Params → PySem.W.Frag} (hn : l.most = some 63) (hdf : d.params.defaults = [])
    (hY : ∀ (w : World) (h : Heap), YP w h → (K w.params).In h)
    (F : ∀ (w : World) (mg : Str → Option Value) (fa : Addr) (h : Heap), (K w.params).In h → h.Ns mainGlobals mg → mg d.name = some (.ref fa) →
      ∃ fd : FuncData, (∀ (s : Shared) (u : Value), BindsTo s fd ⟨[u], []⟩ [("script", u)]) ∧ ∀ base : Heap, (K w.params).In base → base.Ns mainGlobals mg → FnOk l.prog w (K w.params) mg base (L2.CX l.prog w) 5 fa fd ["script"] (sp_law (K w.params))) :
    PySem.W.WalkO q loose XP YP l.row.toRowW d [] (fun f vs => PySem.call f vs) :=
  L2.walk_of (n := 63) (k := 5) (x := "script") (CX := fun w => L2.CX l.prog w) (sp := fun w => sp_law (K w.params)) hn (by decide) hdf ⟨rfl, by decide, by decide⟩ hY F (fun _ _ a ns hl _ hS => ⟨a, ns, rfl, hS, hl, fun _ => rfl⟩) fun _ _ _ _ _ z => cx_none z
end Shf
open PySem PySem.W PyProof.Rows
set_option maxRecDepth 100000 in
set_option maxHeartbeats 0 in
theorem PySem.Challenge.cw_shiftroom_k07_written_holds : PySem.Challenge.rw_shiftroom_k07_written.Holds := by
  w_on; o_law; k_head; (case hw => w_witness2)
  k_fill
  refine Shf.walk (l := PySem.Challenge.rw_shiftroom_k07_written) rfl rfl (fun w h Y => PySem.W.kIn_of Y) ?F
  case F =>
    intro w mg fa h KX G hmg
    refine' Shf.all_mk KX G hmg ?z_bool ?z_int ?z_isinstance ?z_len ?z_list ?z_min ?z_range ?z_str ?z_tuple ?c_FIGURES ?c_MOST ?ga_NoSeating ?xe_NoSeating ?xk_NoSeating ?xb_NoSeating ?xt_NoSeating ?ga_NoSize ?xe_NoSize ?xk_NoSize ?xb_NoSize ?xt_NoSize ?ga_NotRead ?xe_NotRead ?xk_NotRead ?xb_NotRead ?xt_NotRead ?a_L_cell_at ?l_L_cell_at ?co_L_cell_at ?ke_L_cell_at ?a_L_far ?l_L_far ?co_L_far ?ke_L_far ?a_L_whole ?l_L_whole ?co_L_whole ?ke_L_whole ?a_L_same ?l_L_same ?co_L_same ?ke_L_same ?a_L_seating ?l_L_seating ?co_L_seating ?ke_L_seating ?a_L_written ?l_L_written ?co_L_written ?ke_L_written ?a_ask_size ?l_ask_size ?co_ask_size ?ke_ask_size ?a_rest ?l_rest ?co_rest ?ke_rest ?a_seat_of ?l_seat_of ?co_seat_of ?ke_seat_of ?a_read ?l_read ?co_read ?ke_read ?a_is_seating ?l_is_seating ?co_is_seating ?ke_is_seating ?a_ask_seating ?l_ask_seating ?co_ask_seating ?ke_ask_seating ?a_rings ?l_rings ?co_rings ?ke_rings ?a_shown ?l_shown ?co_shown ?ke_shown ?a_law_k07 ?l_law_k07 ?co_law_k07 ?ke_law_k07
    (case z_bool => k_is)
    (case z_int => k_is)
    (case z_isinstance => k_is)
    (case z_len => k_is)
    (case z_list => k_is)
    (case z_min => k_is)
    (case z_range => k_is)
    (case z_str => k_is)
    (case z_tuple => k_is)
    (case c_FIGURES => k_is)
    (case c_MOST => k_is)
    (case ga_NoSeating => k_is)
    (case xe_NoSeating => k_exc)
    (case xk_NoSeating => k_is)
    (case xb_NoSeating => k_is)
    (case xt_NoSeating => k_is)
    (case ga_NoSize => k_is)
    (case xe_NoSize => k_exc)
    (case xk_NoSize => k_is)
    (case xb_NoSize => k_is)
    (case xt_NoSize => k_is)
    (case ga_NotRead => k_is)
    (case xe_NotRead => k_exc)
    (case xk_NotRead => k_is)
    (case xb_NotRead => k_is)
    (case xt_NotRead => k_is)
    (case a_L_cell_at => k_is)
    (case l_L_cell_at => k_is)
    (case co_L_cell_at => k_is)
    (case ke_L_cell_at => k_is)
    (case a_L_far => k_is)
    (case l_L_far => k_is)
    (case co_L_far => k_is)
    (case ke_L_far => k_is)
    (case a_L_whole => k_is)
    (case l_L_whole => k_is)
    (case co_L_whole => k_is)
    (case ke_L_whole => k_is)
    (case a_L_same => k_is)
    (case l_L_same => k_is)
    (case co_L_same => k_is)
    (case ke_L_same => k_is)
    (case a_L_seating => k_is)
    (case l_L_seating => k_is)
    (case co_L_seating => k_is)
    (case ke_L_seating => k_is)
    (case a_L_written => k_is)
    (case l_L_written => k_is)
    (case co_L_written => k_is)
    (case ke_L_written => k_is)
    (case a_ask_size => k_is)
    (case l_ask_size => k_is)
    (case co_ask_size => k_is)
    (case ke_ask_size => k_is)
    (case a_rest => k_is)
    (case l_rest => k_is)
    (case co_rest => k_is)
    (case ke_rest => k_is)
    (case a_seat_of => k_is)
    (case l_seat_of => k_is)
    (case co_seat_of => k_is)
    (case ke_seat_of => k_is)
    (case a_read => k_is)
    (case l_read => k_is)
    (case co_read => k_is)
    (case ke_read => k_is)
    (case a_is_seating => k_is)
    (case l_is_seating => k_is)
    (case co_is_seating => k_is)
    (case ke_is_seating => k_is)
    (case a_ask_seating => k_is)
    (case l_ask_seating => k_is)
    (case co_ask_seating => k_is)
    (case ke_ask_seating => k_is)
    (case a_rings => k_is)
    (case l_rings => k_is)
    (case co_rings => k_is)
    (case ke_rings => k_is)
    (case a_shown => k_is)
    (case l_shown => k_is)
    (case co_shown => k_is)
    (case ke_shown => k_is)
    (case a_law_k07 => k_is)
    (case l_law_k07 => k_is)
    (case co_law_k07 => k_is)
    (case ke_law_k07 => k_is)
#print axioms PySem.Challenge.cw_shiftroom_k07_written_holds
