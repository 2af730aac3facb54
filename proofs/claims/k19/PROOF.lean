import PyProof.Rows.All
import Wide.All
import OpenK.AllK
import Wide.FinOn
import HandS.ForMost
import HandS.Exc
import HandS.TryOnly
import HandS.ExcOwn
import HandS.WordsExc
import HandS.ExcIs
import HandS.IsInst
import HandS.Conv
import HandS.SortInts
import HandS.SortRule
import HandS.Deep
import HandS.Steps
import HandS.TupAny
import HandS.More
import HandS.Rev
import HandS.TupSets
import KE.RegKIsAll
import HandS.RevRange
import PyProof.CollectIter
import PyProof.WalksMore
import HandS.SetFor
import HandS.Strs
import KE.GoesComp
import KE.GoesRaise
import KE.KAsSuite
import HandS.Walk
import HandS.Codes
import HandS.HotCalls
import KE.DataMinMax
import KE.SortData
import PySem.Challenge.RW_shiftroom_k19_dyeings_told_apart
set_option Elab.async false
set_option linter.all false
set_option maxRecDepth 100000
set_option maxHeartbeats 4000000
/-! Shiftroom: the rules that every def's proof here stands on. -/
namespace Shf
open PySem L2

/-- the addresses of the classes -/
structure Gd where
  w : World
  RoomError : Addr := 0
  NoSize : Addr := 0
  NoSeating : Addr := 0
  OtherSize : Addr := 0
  NoSeat : Addr := 0
  NoNumber : Addr := 0
  TooMany : Addr := 0
  Unreached : Addr := 0
  TooWide : Addr := 0
  NotRead : Addr := 0
  Room : Addr := 0
  Book : Addr := 0

/-! ### what an exception may be wished -/
abbrev wE (E : XK) : WX := fun cls d _ H => E cls d H
def tRaiseW (W : WX) (C : Addr) : TS := fun _ σ H => W (.ref C) none σ H
theorem passE0 {X : Cx} (σ : L2.St) : PassesAt (L2.CX X.prog X.w) X σ E0 := fun pins H s e s' I c => passL pins σ H s e s' I c
theorem cx_none {P : Program} {w : World} {H : Hp} {s : Shared} {e : Value} {s' : Shared} (z : L2.CX P w [] H s (fun _ _ _ => False) e s') : False := by
  obtain ⟨_, _, _, _, _, _, _, _, _, _, _, _, z⟩ := z
  exact z

/-! ### a def, a method, a class as a callee -/
structure Cal (P : Program) (w : World) (K : PySem.W.Frag) (mg : Str → Option Value) (base : Heap) (k : Nat) (x : Str) (ps : List Str) (sp : Sp) : Prop where mk' ::
  ex : ∃ f fd, mg x = some (.ref f) ∧ PySem.W.keepIn K (.ref f) = true ∧ Binds K fd ps [] ∧ FnOk P w K mg base (L2.CX P w) k f fd ps sp
theorem Cal.mk {P : Program} {w : World} {K : PySem.W.Frag} {mg : Str → Option Value} {base : Heap} {k : Nat} {x : Str} {ps : List Str} {sp : Sp} (f : Addr) (fd : FuncData) (a : mg x = some (.ref f)) (b : PySem.W.keepIn K (.ref f) = true) (c : Binds K fd ps []) (d : FnOk P w K mg base (L2.CX P w) k f fd ps sp) : Cal P w K mg base k x ps sp := ⟨⟨f, fd, a, b, c, d⟩⟩
structure CalM (P : Program) (w : World) (K : PySem.W.Frag) (mg : Str → Option Value) (base : Heap) (k : Nat) (C : Addr) (m : Str) (ps : List Str) (sp : Sp) : Prop where mk' ::
  ex : ∃ f fd, Meth K C m f ∧ Binds K fd ps [] ∧ FnOk P w K mg base (L2.CX P w) k f fd ps sp
theorem CalM.mk {P : Program} {w : World} {K : PySem.W.Frag} {mg : Str → Option Value} {base : Heap} {k : Nat} {C : Addr} {m : Str} {ps : List Str} {sp : Sp} (f : Addr) (fd : FuncData) (a : Meth K C m f) (c : Binds K fd ps []) (d : FnOk P w K mg base (L2.CX P w) k f fd ps sp) : CalM P w K mg base k C m ps sp := ⟨⟨f, fd, a, c, d⟩⟩
structure CalI (P : Program) (w : World) (K : PySem.W.Frag) (mg : Str → Option Value) (base : Heap) (k : Nat) (C : Addr) (ps : List Str) (sp : Sp) : Prop where mk' ::
  ex : ∃ f fd, Mk K C f ∧ Binds K fd ps [] ∧ FnOk P w K mg base (L2.CX P w) k f fd ps sp
theorem CalI.mk {P : Program} {w : World} {K : PySem.W.Frag} {mg : Str → Option Value} {base : Heap} {k : Nat} {C : Addr} {ps : List Str} {sp : Sp} (f : Addr) (fd : FuncData) (a : Mk K C f) (c : Binds K fd ps []) (d : FnOk P w K mg base (L2.CX P w) k f fd ps sp) : CalI P w K mg base k C ps sp := ⟨⟨f, fd, a, c, d⟩⟩

section
variable {X : Cx} {k : Nat} {x m : Str} {C : Addr} {ps : List Str} {sp : Sp} {E : L2.St → XK} {e o : Expr} {es : List Expr} {t : TA} {ta : TE} {p pos apos : Pos}
theorem pe_cal (c : Cal X.prog X.w X.K X.mg X.base k x ps sp) (hr : Room k X.A) (hg : Gl X x) (hx : ∀ σ, PassesAt (L2.CX X.prog X.w) X σ (E σ)) (ha : PA X (e :: es) t) (hdb : (x == ("__debug__" : Str)) = false := by decide)
    (he : starEach (e :: es) X.env = (false, eval e X.env) :: starEach es X.env := by rfl) (hpl : (backTo pos (starEach es X.env)).any (·.1) = false := by rfl) : PE X (.Call (.Name x p) (e :: es) [] pos) (tCallS sp E t) := by
  obtain ⟨f, fd, a, b, c, d⟩ := c.ex
  exact pe_callS d hr hg a b c hx ha hdb he hpl
theorem pe_cal0 (c : Cal X.prog X.w X.K X.mg X.base k x ps sp) (hr : Room k X.A) (hg : Gl X x) (hx : ∀ σ, PassesAt (L2.CX X.prog X.w) X σ (E σ)) (hdb : (x == ("__debug__" : Str)) = false := by decide) : PE X (.Call (.Name x p) [] [] pos) (tCallS sp E tNil) := by
  obtain ⟨f, fd, a, b, c, d⟩ := c.ex
  refine ⟨fun pins s σ H Q I h => ?_⟩
  refine wpAny_Call_Name_kw (ld_glob I hg a ?_ hdb)
  exact PySem.W.callWith_K0 I.kIn b (run_fnS (us := []) (vs := []) d hr c (hx σ) I .nil h)
def tMethS (C : Addr) (m : Str) (sp : Sp) (E : L2.St → XK) (ta : TE) (t : TA) : TE := fun σ H Q => ta σ H fun x H1 => ∃ a dx fs, x = .ref a ∧ H1 a = some (.ins C dx fs) ∧ fs.lookup m = none ∧
  t σ H1 fun vs H2 => sp (x :: vs) H2 Q (E σ)
theorem pe_calM {pl : Sem Bool} (he : PE X o ta) (c : Cls X.K C) (cm : CalM X.prog X.w X.K X.mg X.base k C m ps sp) (hr : Room k X.A) (hx : ∀ σ, PassesAt (L2.CX X.prog X.w) X σ (E σ)) (ha : PA X (e :: es) t)
    (hst : starEach (e :: es) X.env = (false, eval e X.env) :: starEach es X.env := by rfl) (hpl : (backTo pos (starEach es X.env)).any (·.1) = false := by rfl)
    (ht : eval (.Call (.Attribute o m apos) (e :: es) [] pos) X.env = (do
      let ov ← eval o X.env
      standAt apos.atName
      let (f, first) ← holding [ov] (getMethod ov m pl)
      callWith pos f first (backTo pos (starEach (e :: es) X.env)) (backToKw pos (keywordEach [] X.env))) := by rfl) : PE X (.Call (.Attribute o m apos) (e :: es) [] pos) (tMethS C m sp E ta t) := by
  obtain ⟨f, fd, hm, hb, d⟩ := cm.ex
  refine ⟨fun pins s σ H Q I h => ?_⟩
  refine PySem.W.methodCall_KW (pl := pl) (thn (he.run pins s σ H _ I h) fun u s1 ⟨x, H1, I1, rx, a, dx, fs, ex, ea, l, q⟩ => ?_) ht
  subst ex
  obtain rfl : u = Value.ref a := rx
  refine getmeth_ok I1 ea c hm l ?_
  refine PySem.W.callWith_K (first := [.ref a]) (h₀ := X.base) I.ok.mod.kin hm.kp (thn (ha.run pos pins s1 σ H1 _ I1 q) fun us s2 ⟨vs, H2, I2, r, q2⟩ => ⟨I2.kIn, ?_⟩) hst hpl
  exact run_fnS (us := .ref a :: us) (vs := .ref a :: vs) d hr hb (hx σ) I2 (.cons rfl r) q2
theorem pe_calM0 {pl : Sem Bool} (he : PE X o ta) (c : Cls X.K C) (cm : CalM X.prog X.w X.K X.mg X.base k C m ps sp) (hr : Room k X.A) (hx : ∀ σ, PassesAt (L2.CX X.prog X.w) X σ (E σ))
    (ht : eval (.Call (.Attribute o m apos) [] [] pos) X.env = (do
      let ov ← eval o X.env
      standAt apos.atName
      let (f, first) ← holding [ov] (getMethod ov m pl)
      callWith pos f first (backTo pos (starEach [] X.env)) (backToKw pos (keywordEach [] X.env))) := by rfl) : PE X (.Call (.Attribute o m apos) [] [] pos) (tMethS C m sp E ta tNil) := by
  obtain ⟨f, fd, hm, hb, d⟩ := cm.ex
  refine ⟨fun pins s σ H Q I h => ?_⟩
  refine PySem.W.methodCall_KW (pl := pl) (thn (he.run pins s σ H _ I h) fun u s1 ⟨x, H1, I1, rx, a, dx, fs, ex, ea, l, q⟩ => ?_) ht
  subst ex
  obtain rfl : u = Value.ref a := rx
  refine getmeth_ok I1 ea c hm l ?_
  exact PySem.W.callWith_K0 (first := [.ref a]) I1.kIn hm.kp (run_fnS (us := [.ref a]) (vs := [.ref a]) d hr hb (hx σ) I1 (.cons rfl .nil) q)
/-- C(..): a new instance and its dict, then __init__, which may raise what is wished -/
def tMakeS (C : Addr) (sp : Sp) (E : L2.St → XK) (t : TA) : TE := fun σ H Q => t σ H fun vs H1 => ∀ x dx, H1 x = none → H1 dx = none → dx ≠ x →
  sp (.ref x :: vs) (upd (upd H1 dx (.own x)) x (.ins C dx [])) (fun v H2 => v = .non ∧ Q (.ref x) H2) (E σ)
theorem run_makeS {pins : List (Addr × Obj)} {σ : L2.St} {H : Hp} {s : Shared} {Q : VK} {us : List Value} {vs : List V} {f : Addr} {fd : FuncData} {E : L2.St → XK} (M : Mk X.K C f) (F : FnOk X.prog X.w X.K X.mg X.base (L2.CX X.prog X.w) k f fd ps sp) (hr : Room (k + 1) X.A) (hb : Binds X.K fd ps [])
    (hx : PassesAt (L2.CX X.prog X.w) X σ (E σ)) (I : Inv X pins σ H s) (r : Vals vs us)
    (h : ∀ x dx, H x = none → H dx = none → dx ≠ x → sp (.ref x :: vs) (upd (upd H dx (.own x)) x (.ins C dx [])) (fun v H2 => v = .non ∧ Q (.ref x) H2) (E σ)) :
    wpAny (model X.prog X.w) X.A (call (.ref C) us) (EP X pins σ Q) X.xe s := by
  have hq := h (s.heap.objs.size + 1) s.heap.objs.size (I.hok.fresh (Nat.le_succ _)) (I.hok.fresh (Nat.le_refl _)) (Nat.ne_of_lt (Nat.lt_succ_self _))
  have I2 := Inv.made (C := C) I
  have r2 : Vals (V.ref (s.heap.objs.size + 1) :: vs) (Value.ref (s.heap.objs.size + 1) :: us) := .cons rfl r
  have hl : (Value.ref (s.heap.objs.size + 1) :: us).length = ps.length := by
    have e := r2.length
    rw [F.len _ _ _ _ hq] at e
    exact e.symm
  have bd := hb (s := _) (us := Value.ref (s.heap.objs.size + 1) :: us) I2.kIn (by rw [List.append_nil]; exact hl)
  rw [List.append_nil] at bd
  refine wpAny_call (make_map (f := f) I.kIn M.makes M.init (beq_iff_eq.mp M.fn) (codeAny_mono (F.run _ X.stack _ _ ⟨Value.ref (s.heap.objs.size + 1) :: us, []⟩ (Value.ref (s.heap.objs.size + 1) :: us) _ _ (E σ) (hr.make C us [])
    (I2.env0.make C us []) bd r2 hq) fun r s' hq' => ?_))
  cases r with
  | error e => exact hx pins _ _ e s' I2 hq'
  | ok fl =>
    cases fl with
    | ret u =>
      obtain ⟨v, H', I3, rv, ev, q3⟩ := I2.after hq'
      subst ev
      exact ⟨rv, ⟨V.ref (s.heap.objs.size + 1), H', I3, rfl, q3⟩⟩
    | next => exact False.elim hq'
    | brk => exact False.elim hq'
    | cont => exact False.elim hq'
theorem pe_mk (c : CalI X.prog X.w X.K X.mg X.base k C ps sp) (hr : Room (k + 1) X.A) (hg : Gl X x) (hm : X.mg x = some (.ref C)) (hx : ∀ σ, PassesAt (L2.CX X.prog X.w) X σ (E σ)) (ha : PA X (e :: es) t) (hdb : (x == ("__debug__" : Str)) = false := by decide)
    (he : starEach (e :: es) X.env = (false, eval e X.env) :: starEach es X.env := by rfl) (hpl : (backTo pos (starEach es X.env)).any (·.1) = false := by rfl) : PE X (.Call (.Name x p) (e :: es) [] pos) (tMakeS C sp E t) := by
  obtain ⟨f, fd, M, b, d⟩ := c.ex
  refine ⟨fun pins s σ H Q I h => ?_⟩
  refine wpAny_Call_Name_kw (ld_glob I hg hm ?_ hdb)
  refine PySem.W.callWith_K (h₀ := X.base) I.ok.mod.kin M.kp (thn (ha.run pos pins s σ H _ I h) fun us s1 ⟨vs, H1, I1, r, q⟩ => ⟨I1.kIn, ?_⟩) he hpl
  exact run_makeS M d hr b (hx σ) I1 r q
end
/-- what the fields of a room, a book want -/
structure RmC (K : PySem.W.Frag) (g : Gd) : Prop where
  cl : Cls K g.Room
  size : NoAttr K g.Room "size"
  told : NoAttr K g.Room "told"
  book : NoAttr K g.Room "book"
structure BkC (K : PySem.W.Frag) (g : Gd) : Prop where
  cl : Cls K g.Book
  size : NoAttr K g.Book "size"
  steps : NoAttr K g.Book "steps"
  made : NoAttr K g.Book "made"
  rows : NoAttr K g.Book "rows"
  kept : NoAttr K g.Book "kept"

/-! ### operators by short names -/
def rAddI : R2 := rI0 fun i j => V.int (i + j)
def rSubI : R2 := rI0 fun i j => V.int (i - j)
def rMulI : R2 := rI CMul fun i j => V.int (i * j)
/-- // by any divisor of up to 9000 bits -/
def CDivW (i j : Int) : Prop := j ≠ 0 ∧ j.natAbs.log2 < 9000
theorem op_fdivW {X : Cx} : OpR X (binaryOp .FloorDiv) (rI CDivW fun i j => .int (i.fdiv j)) := opI fun _ _ _ _ _ _ _ hc q => PyProof.Rows.floordiv_int hc.1 q (.inl (PyProof.noPylong_of_log2 hc.2))
def rDivI : R2 := rI CDivW fun i j => V.int (i.fdiv j)
def rModI : R2 := rI (fun _ j => j ≠ 0) fun i j => V.int (i.fmod j)
def rPowI : R2 := rI CPow fun i j => V.int (i ^ j.toNat)
def rLtI : R2 := rI0 fun i j => V.bl (decide (i < j))
def rLeI : R2 := rI0 fun i j => V.bl (decide (i ≤ j))
def rGtI : R2 := rI0 fun i j => V.bl (decide (j < i))
def rGeI : R2 := rI0 fun i j => V.bl (decide (j ≤ i))
def rAddS : R2 := fun x y H Q => ∃ i j, x = V.str i ∧ y = V.str j ∧ i.length + j.length ≤ sizeLine ∧ Q (.str (i ++ j)) H
def rLenQ (K : PySem.W.Frag) : List V → Hp → VK → Prop := fun xs H Q => ∃ p ys, xs = [.ref p] ∧ (SqL K H p ys ∨ SqT K H p ys) ∧ Q (.int ys.length) H
def rLenDk : List V → Hp → VK → Prop := fun xs H Q => ∃ a kvs, xs = [V.ref a] ∧ H a = some (.dK kvs) ∧ Q (.int kvs.length) H
def rLenSt : List V → Hp → VK → Prop := fun xs H Q => ∃ z, xs = [.str z] ∧ z.length ≤ sizeLine ∧ Q (.int z.length) H
def rListOf (K : PySem.W.Frag) : List V → Hp → VK → Prop := fun xs H Q => ∃ p ys, xs = [.ref p] ∧ (SqL K H p ys ∨ SqT K H p ys) ∧ ∀ l, H l = none → Q (.ref l) (upd H l (.lst ys))
def rTupOf (K : PySem.W.Frag) : List V → Hp → VK → Prop := fun xs H Q => ∃ p ys, xs = [.ref p] ∧ ((SqL K H p ys ∧ ∀ l, H l = none → Q (.ref l) (upd H l (.tup ys))) ∨ (SqT K H p ys ∧ Q (.ref p) H))
def rStrI : List V → Hp → VK → Prop := fun xs H Q => ∃ i, xs = [.int i] ∧ i.natAbs.log2 < 1920 ∧ Q (.str (toString i)) H
def rIntS : List V → Hp → VK → Prop := fun xs H Q => ∃ a n, xs = [.str a] ∧ PySem.intText? a = some n ∧ a.length ≤ 640 ∧ Q (.int n) H
def rMax2 : List V → Hp → VK → Prop := fun xs H Q => ∃ i j, xs = [.int i, .int j] ∧ Q (.int (if j > i then j else i)) H
def rMin2 : List V → Hp → VK → Prop := fun xs H Q => ∃ i j, xs = [.int i, .int j] ∧ Q (.int (if j < i then j else i)) H
def rInsert : V → List V → Hp → VK → Prop := fun x vs H Q => ∃ (l : Addr) (xs : List V) (i : Int) (y : V), x = .ref l ∧ vs = [.int i, y] ∧ H l = some (.lst xs) ∧ xs.length < sizeLine ∧ 0 ≤ i ∧ i < 2 ^ 63 ∧
    Q .non (upd H l (.lst (xs.take i.toNat ++ [y] ++ xs.drop i.toNat)))
def rJoin (K : PySem.W.Frag) : V → List V → Hp → VK → Prop := fun x xs H Q => ∃ a p, ∃ ys : List Str, x = .str a ∧ xs = [.ref p] ∧ (SqL K H p (ys.map V.str) ∨ SqT K H p (ys.map V.str)) ∧
      (ys.map (·.length)).sum + ys.length * a.length ≤ 16777216 ∧ Q (.str (Txt.join a ys)) H
def rSplit : V → List V → Hp → VK → Prop := fun x xs H Q => ∃ a b, x = .str a ∧ xs = [.str b] ∧ (b.length == 0) = false ∧ a.length + 2 ≤ sizeLine ∧ rNewStrs (Txt.split a b) H Q
theorem hu65 {k : Nat} {A : Around} (hr : Room k A) : A.units + 65 < cLine := by have := hr.un; omega

section
variable {X : Cx}
theorem pe_globI {x : Str} {i : Int} {pos : Pos} (hm : ∃ t, X.mg x = some (.int i t)) (hg : Gl X x := by rfl) (hd : (x == ("__debug__" : Str)) = false := by decide) : PE X (.Name x pos) (tC (.int i)) := by
  obtain ⟨t, h⟩ := hm
  exact pe_glob hg h ⟨_, rfl⟩ hd
theorem pe_globS {x : Str} {i : Str} {pos : Pos} (hm : ∃ t, X.mg x = some (.str i t)) (hg : Gl X x := by rfl) (hd : (x == ("__debug__" : Str)) = false := by decide) : PE X (.Name x pos) (tC (.str i)) := by
  obtain ⟨t, h⟩ := hm
  exact pe_glob hg h ⟨_, rfl⟩ hd
end

/-! ### own exceptions -/
structure ExB (K : PySem.W.Frag) (mg : Str → Option Value) (x : Str) (D : Addr) : Prop where
  gC : mg x = some (.ref D)
  ex : PySem.W.excIn K D [.type "ValueError", .type "Exception", .type "BaseException", .type "object"] "ValueError.__new__" = true
  kC : PySem.W.keepIn K (.ref D) = true
  bC : PySem.W.subIn K (.ref D) (.type "BaseException") = some true
  tC : PySem.W.typeIn K (.ref D) = some (.type "type")
/-- isinstance(e, c) in an except suite that holds an exception of class cls -/
def rIsE2 (K : PySem.W.Frag) (cls : Value) (d : Option Addr) (a : Addr) : List V → Hp → VK → Prop := fun xs H Q => ∃ D, cls = .ref D ∧ d = none ∧ ExcC K D ∧ rIsE K D a xs H Q
theorem call_isE2 {X : Cx} {a : Addr} {oe : Obj} {cls : Value} {d : Option Addr} {pn : List (Addr × Obj)} (hz : Zc cls d oe) (hf : ∃ vs, oe.data = .fields vs) : CallR (X.suite a ((a, oe) :: pn)) (.builtin "isinstance") (rIsE2 X.K cls d a) := by
  intro pins s σ H xs us Q I r h
  obtain ⟨D, rfl, rfl, C, h⟩ := h
  exact call_isE C hz hf pins s σ H xs us Q I r h

/-! ### data -/
/-- numbers as values -/
abbrev vI (a : List Int) : List V := a.map V.int
abbrev vN (a : List Nat) : List V := a.map fun (n : Nat) => V.int (n : Int)
/-- a new tuple of numbers is handed back, all else as it was -/
def NewT (H : Hp) (a : List Nat) (Q : VK) : Prop := ∀ (r : Addr) (H' : Hp), Same H H' → H r = none → H' r = some (.tup (vN a)) → Q (.ref r) H'
theorem vN_at {a : List Nat} {i n : Nat} (h : a[i]? = some n) : (vN a)[i]? = some (V.int (n : Int)) := by
  show (a.map _)[i]? = _
  rw [List.getElem?_map, h] <;> rfl
theorem vI_at {a : List Int} {i : Nat} {n : Int} (h : a[i]? = some n) : (vI a)[i]? = some (V.int n) := by
  show (a.map _)[i]? = _
  rw [List.getElem?_map, h] <;> rfl
theorem getD_at {a : List Nat} {i : Nat} (h : i < a.length) : a[i]? = some (a.getD i 0) := by
  rw [List.getD_eq_getElem?_getD, List.getElem?_eq_getElem h] <;> rfl
theorem at_vN {a : List Nat} {z : Int} {i : Nat} (e : z = (i : Int)) (h : i < a.length) : atI (vN a) z = some (V.int ((a.getD i 0 : Nat) : Int)) := at_of e (vN_at (getD_at h))
theorem vN_eq (a : List Nat) : vN a = vI (a.map fun (n : Nat) => (n : Int)) := by
  show a.map _ = (a.map _).map _
  rw [List.map_map] <;> rfl
theorem vN_len (a : List Nat) : (vN a).length = a.length := List.length_map ..
theorem vI_len (a : List Int) : (vI a).length = a.length := List.length_map ..
theorem _root_.L2.Same.up {H H' : Hp} {p : Addr} {o : HO} (s : Same H H') (h : H p = none) : Same H (upd H' p o) := fun b u e => by
  rw [upd_ne (ne_of_none e h)]
  exact s b u e
theorem _root_.L2.Same.new {H H' : Hp} {p : Addr} {o : HO} (s : Same H H') (h : H' p = none) : Same H (upd H' p o) := s.up (s.free h)
theorem _root_.L2.Same.tup {K : PySem.W.Frag} {H H' : Hp} {a : Addr} {xs : List V} (e : Same H H') (h : SqT K H a xs) : SqT K H' a xs := by
  rcases h with (h | ⟨o, h⟩) | h
  · exact .inl (.inl (e _ _ h))
  · exact .inl (.inr ⟨o, e _ _ h⟩)
  · exact .inr h
theorem sqT {K : PySem.W.Frag} {H : Hp} {a : Addr} {xs : List V} (h : H a = some (.tup xs)) : SqT K H a xs := .inl (.inl h)
theorem sqL {K : PySem.W.Frag} {H : Hp} {a : Addr} {xs : List V} (h : H a = some (.lst xs)) : SqL K H a xs := .inl (.inl h)
theorem zl {n : Nat} (h : n ≤ 100000) : n ≤ sizeLine := Nat.le_trans h (by decide)
theorem zlt {n : Nat} (h : n < 100000) : n < sizeLine := Nat.lt_of_lt_of_le h (by decide)
theorem if_t {c : Bool} {A B : Prop} (hc : c = true) (h : A) : if c = true then A else B := by rw [if_pos hc]; exact h
theorem if_f {c : Bool} {A B : Prop} (hc : c = false) (h : B) : if c = true then A else B := by rw [hc, if_neg Bool.false_ne_true]; exact h
theorem if_d {c : Prop} [Decidable c] {A B : Prop} (h1 : c → A) (h2 : ¬ c → B) : if decide c = true then A else B := by
  by_cases h : c
  · exact if_t (decide_eq_true h) (h1 h)
  · exact if_f (decide_eq_false h) (h2 h)
theorem if_b {c : Bool} {A B : Prop} (h1 : c = true → A) (h2 : c = false → B) : if c = true then A else B := by
  cases c with
  | true => exact if_t rfl (h1 rfl)
  | false => exact if_f rfl (h2 rfl)
theorem fmod_pos {a b : Int} (h : 0 < b) : a.fmod b = a % b := Int.fmod_eq_emod_of_nonneg a (Int.le_of_lt h)
theorem fdiv_pos {a b : Int} (h : 0 < b) : a.fdiv b = a / b := Int.fdiv_eq_ediv_of_nonneg a (Int.le_of_lt h)
end Shf

/-! numbers, lists, permutations; steps of the reading by names -/
namespace Shf
open PySem L2
/-! ### steps: one a combinator -/
section
variable {K : PySem.W.Frag} {σ : L2.St} {H : Hp} {Q : VK} {QA : List V → Hp → Prop} {QB : Bool → Hp → Prop} {D : Ends} {te tf : TE} {ta : TA} {tt tu : TT} {t u : TS} {g : TG}
theorem w_seq (h : t { D with nx := u D } σ H) : tSeq t u D σ H := h
theorem w_asg {i : Nat} (h : te σ H fun x H1 => D.nx (σ.set i (some x)) H1) : tAsg te (gName i) D σ H := h
theorem w_asgS {to ti : TE} {r : TSet} (h : te σ H fun x H1 => to σ H1 fun o H1 => ti σ H1 fun i H2 => r o i x H2 fun H3 => D.nx σ H3) : tAsg te (gSub to ti r) D σ H := h
theorem w_drop (h : te σ H fun _ H1 => D.nx σ H1) : tDrop te D σ H := h
theorem w_ret (h : te σ H D.rt) : tRet te D σ H := h
theorem w_next (h : D.nx σ H) : tNext D σ H := h
theorem w_if (h : tt σ H fun b H1 => if b = true then t D σ H1 else u D σ H1) : tIfS tt t u D σ H := h
theorem w_var {i : Nat} {v : V} (e : σ[i]? = some (some v)) (q : Q v H) : tVar i σ H Q := ⟨v, e, q⟩
theorem w_c {v : V} (q : Q v H) : tC v σ H Q := q
theorem w_op {r : R2} (h : te σ H fun x H1 => tf σ H1 fun y H2 => r x y H2 Q) : tOp r te tf σ H Q := h
theorem w_un {r : V → Hp → VK → Prop} (h : te σ H fun x H1 => r x H1 Q) : tUn r te σ H Q := h
theorem w_nil (h : QA [] H) : tNil σ H QA := h
theorem w_cons (h : te σ H fun x H1 => ta σ H1 fun xs H2 => QA (x :: xs) H2) : tCons te ta σ H QA := h
theorem w_cb {r : List V → Hp → VK → Prop} (h : ta σ H fun vs H1 => r vs H1 Q) : tCB r ta σ H Q := h
theorem w_call {sp : Sp} {E : L2.St → XK} (h : ta σ H fun vs H1 => sp vs H1 Q (E σ)) : tCallS sp E ta σ H Q := h
theorem w_test (h : te σ H fun x H' => ∃ k, x = .bl k ∧ QB k H') : tTest te σ H QB := h
theorem w_b (h : te σ H fun x H' => ∃ k, x = .bl k ∧ QB k H') : tB te σ H QB := h
theorem w_bex {b : Bool} {P : Bool → Prop} (h : P b) : ∃ k, V.bl b = .bl k ∧ P k := ⟨b, rfl, h⟩
theorem w_and (h : tt σ H fun c H1 => if c = true then tu σ H1 QB else QB false H1) : tAnd tt tu σ H QB := h
theorem w_or (h : tt σ H fun c H1 => if c = true then QB true H1 else tu σ H1 QB) : tOr tt tu σ H QB := h
theorem w_orP {b c : Bool} (ht : ∀ R : Bool → Hp → Prop, R b H → tt σ H R) (hu : ∀ R : Bool → Hp → Prop, R c H → tu σ H R) (q : QB (b || c) H) : tOr tt tu σ H QB := by
  refine ht _ ?_
  cases b with
  | true => exact q
  | false => exact hu _ q
theorem w_andP {b c : Bool} (ht : ∀ R : Bool → Hp → Prop, R b H → tt σ H R) (hu : ∀ R : Bool → Hp → Prop, R c H → tu σ H R) (q : QB (b && c) H) : tAnd tt tu σ H QB := by
  refine ht _ ?_
  cases b with
  | true => exact hu _ q
  | false => exact q
theorem w_not (h : tt σ H fun c H1 => QB (!c) H1) : tNot tt σ H QB := h
theorem w_andV (h : te σ H fun x H1 => ∃ c, x = .bl c ∧ if c = true then tf σ H1 Q else Q (.bl false) H1) : tAndV te tf σ H Q := h
theorem w_orV (h : te σ H fun x H1 => ∃ c, x = .bl c ∧ if c = true then Q (.bl true) H1 else tf σ H1 Q) : tOrV te tf σ H Q := h
theorem w_notV (h : te σ H fun x H1 => ∃ c, x = .bl c ∧ Q (.bl (!c)) H1) : tNotV te σ H Q := h
theorem w_ife (h : tt σ H fun c H1 => if c = true then te σ H1 Q else tf σ H1 Q) : tIf tt te tf σ H Q := h
theorem w_add {i j : Int} (q : Q (.int (i + j)) H) : rAddI (.int i) (.int j) H Q := ⟨i, j, rfl, rfl, q⟩
theorem w_sub {i j : Int} (q : Q (.int (i - j)) H) : rSubI (.int i) (.int j) H Q := ⟨i, j, rfl, rfl, q⟩
theorem w_neg {i : Int} (q : Q (.int (-i)) H) : rU (fun i => V.int (-i)) (.int i) H Q := ⟨i, rfl, q⟩
theorem w_lt {i j : Int} (q : Q (.bl (decide (i < j))) H) : rLtI (.int i) (.int j) H Q := ⟨i, j, rfl, rfl, q⟩
theorem w_le {i j : Int} (q : Q (.bl (decide (i ≤ j))) H) : rLeI (.int i) (.int j) H Q := ⟨i, j, rfl, rfl, q⟩
theorem w_gt {i j : Int} (q : Q (.bl (decide (j < i))) H) : rGtI (.int i) (.int j) H Q := ⟨i, j, rfl, rfl, q⟩
theorem w_ge {i j : Int} (q : Q (.bl (decide (j ≤ i))) H) : rGeI (.int i) (.int j) H Q := ⟨i, j, rfl, rfl, q⟩
theorem w_tup (h : ta σ H fun xs H1 => xs.length ≤ sizeLine ∧ ∀ p, H1 p = none → Q (.ref p) (upd H1 p (.tup xs))) : tTup ta σ H Q := h
theorem w_lst (h : ta σ H fun xs H1 => xs.length ≤ sizeLine ∧ ∀ p, H1 p = none → Q (.ref p) (upd H1 p (.lst xs))) : tLst ta σ H Q := h
theorem w_lrg {tr : L2.St → Hp → (Int → Int → Hp → Prop) → Prop} (h : tr σ H fun a b H1 => RgOk a b ∧ ∀ q, H1 q = none → Q (.ref q) (upd H1 q (.lst (rgV a b)))) : tLstRg tr σ H Q := h
theorem w_trg {tr : L2.St → Hp → (Int → Int → Hp → Prop) → Prop} (h : tr σ H fun a b H1 => RgOk a b ∧ ∀ q, H1 q = none → Q (.ref q) (upd H1 q (.tup (rgV a b)))) : tTupRg tr σ H Q := h
theorem w_rg1 {QR : Int → Int → Hp → Prop} (h : te σ H fun x H1 => ∃ n, x = .int n ∧ QR 0 n H1) : tRg1 te σ H QR := h
theorem w_iex {i : Int} {P : Int → Prop} (h : P i) : ∃ n, V.int i = .int n ∧ P n := ⟨i, rfl, h⟩
theorem w_yes (q : QB true H) : tYes σ H QB := q
theorem w_bm {T : String} {r : V → List V → Hp → VK → Prop} (h : te σ H fun x H1 => tyV K T x H1 ∧ ta σ H1 fun xs H2 => r x xs H2 Q) : tBM K T r te ta σ H Q := h
theorem w_bm0 {T : String} {r : V → List V → Hp → VK → Prop} (h : te σ H fun x H1 => tyV K T x H1 ∧ r x [] H1 Q) : tBM0 K T r te σ H Q := h
def rFld (K : PySem.W.Frag) (f : Str) (x : V) (H : Hp) (Q : VK) : Prop := ∃ a C dx fs v, x = .ref a ∧ H a = some (.ins C dx fs) ∧ Cls K C ∧ NoAttr K C f ∧ fs.lookup f = some v ∧ Q v H
theorem w_fld {f : Str} (h : te σ H fun x H1 => rFld K f x H1 Q) : tFld K te f σ H Q := h
theorem w_sfld {f : Str} (h : tf σ H fun y H1 => te σ H1 fun x H2 => ∃ a C dx fs, x = .ref a ∧ H2 a = some (.ins C dx fs) ∧ Cls K C ∧ NoAttr K C f ∧ fs.length < 1000 ∧ D.nx σ (upd H2 a (.ins C dx (putF f y fs)))) : sFld K te tf f D σ H := h
def rDGet (x y : V) (H : Hp) (Q : VK) : Prop := ∃ a v, x = .ref a ∧ DGet H a y (some v) ∧ Q v H
theorem w_dget (h : te σ H fun x H1 => tf σ H1 fun y H2 => rDGet x y H2 Q) : tDGet te tf σ H Q := h
theorem w_dget1 (h : te σ H fun x H1 => ∃ a, x = .ref a ∧ IsD H1 a ∧ tf σ H1 fun y H2 => ∃ o, DGet H2 a y o ∧ Q (o.getD .non) H2) : tDGet1 te tf σ H Q := h
theorem w_meth {C : Addr} {m : Str} {sp : Sp} {E : L2.St → XK} (h : te σ H fun x H1 => ∃ a dx fs, x = .ref a ∧ H1 a = some (.ins C dx fs) ∧ fs.lookup m = none ∧ ta σ H1 fun vs H2 => sp (x :: vs) H2 Q (E σ)) : tMethS C m sp E te ta σ H Q := h
def rMake (C : Addr) (sp : Sp) (E : XK) (vs : List V) (H1 : Hp) (Q : VK) : Prop := ∀ x dx, H1 x = none → H1 dx = none → dx ≠ x → sp (.ref x :: vs) (upd (upd H1 dx (.own x)) x (.ins C dx [])) (fun v H2 => v = .non ∧ Q (.ref x) H2) E
theorem w_make {C : Addr} {sp : Sp} {E : L2.St → XK} (h : ta σ H fun vs H1 => rMake C sp (E σ) vs H1 Q) : tMakeS C sp E ta σ H Q := h
theorem w_raise {W : WX} {C : Addr} (h : W (.ref C) none σ H) : tRaiseW W C D σ H := h
end
/-- ways that meet: what holds where they meet -/
theorem w_join {t : TS} {D : Ends} {σ : L2.St} {H : Hp} (M : L2.St → Hp → Prop) (key : ∀ σ' H', M σ' H' → D.nx σ' H') (h : (∀ σ' H', M σ' H' → D.nx σ' H') → t D σ H) : t D σ H := h key
/-- for .. in range(n), behind n's reading -/
theorem w_for1 {σ : L2.St} {H : Hp} {D : Ends} {i n : Nat} {t : TS} (hn : n ≤ 1000000) (Pv : Nat → L2.St → Hp → Prop) (h0 : Pv 0 σ H)
    (hs : ∀ k σ H, k < n → Pv k σ H → t { D with nx := Pv (k + 1), ct := Pv (k + 1), bk := D.nx } (σ.set i (some (.int (k : Int)))) H) (hd : ∀ σ H, Pv n σ H → D.nx σ H) :
    ∃ j : Int, [V.int (n : Int)] = [.int j] ∧ -(2 ^ 62) ≤ j ∧ j < 2 ^ 62 ∧ ∃ W : Nat → Nat → L2.St → Hp → Prop, (∃ m, W 0 m σ H) ∧ ∀ i' m σ H, W i' m σ H →
      ((Itr 0 j.toNat).stop i' H ∧ D.nx σ H) ∨ ((Itr 0 j.toNat).go i' H ∧ ∃ N : L2.St → Hp → Prop, (∀ σ' H', N σ' H' → ∃ m', m' < m ∧ W (i' + 1) m' σ' H') ∧ ∀ x H', (Itr 0 j.toNat).yld i' H x H' → gName i x σ H' fun σ2 H2 => t { D with nx := N, ct := N, bk := D.nx } σ2 H2) :=
  ⟨_, rfl, by omega, by omega, for_range (n := n) Pv h0 (fun k σ H hk p => by
    show t _ (σ.set i (some (V.int (0 + (k : Int))))) H
    rw [Int.zero_add]
    exact hs k σ H hk p) hd⟩
theorem w_for {σ : L2.St} {H : Hp} {D : Ends} {wi : TI} {g : TG} {tb : TS} (h : wi σ H fun J H1 => ∃ W : Nat → Nat → L2.St → Hp → Prop, (∃ m, W 0 m σ H1) ∧ ∀ i m σ H, W i m σ H →
  (J.stop i H ∧ D.nx σ H) ∨ (J.go i H ∧ ∃ N : L2.St → Hp → Prop, (∀ σ' H', N σ' H' → ∃ m', m' < m ∧ W (i + 1) m' σ' H') ∧ ∀ x H', J.yld i H x H' → g x σ H' fun σ2 H2 => tb { D with nx := N, ct := N, bk := D.nx } σ2 H2)) : tFor wi g tb D σ H := h
theorem w_irng1 {σ : L2.St} {H : Hp} {ta : TA} {R : It → Hp → Prop} (h : ta σ H fun vs H1 => ∃ j : Int, vs = [.int j] ∧ -(2 ^ 62) ≤ j ∧ j < 2 ^ 62 ∧ R (Itr 0 j.toNat) H1) : iRng1 ta σ H R := h
theorem w_irng2 {σ : L2.St} {H : Hp} {ta : TA} {R : It → Hp → Prop} (h : ta σ H fun vs H1 => ∃ i j : Int, vs = [.int i, .int j] ∧ (-(2 ^ 62) ≤ i ∧ i < 2 ^ 62 ∧ -(2 ^ 62) ≤ j ∧ j < 2 ^ 62) ∧ R (Itr i (j - i).toNat) H1) : iRng2 ta σ H R := h
theorem w_ilist {K : PySem.W.Frag} {σ : L2.St} {H : Hp} {te : TE} {R : It → Hp → Prop} (h : te σ H fun x H1 => ∃ a, x = .ref a ∧ (∃ xs, SqL K H1 a xs) ∧ R (Itl K a) H1) : iList K te σ H R := h
theorem w_itup {K : PySem.W.Frag} {σ : L2.St} {H : Hp} {te : TE} {R : It → Hp → Prop} (h : te σ H fun x H1 => ∃ a, x = .ref a ∧ (∃ xs, SqT K H1 a xs) ∧ R (Itt K a) H1) : iTup K te σ H R := h
/-! ### steps -/
section
variable {K : PySem.W.Frag} {H : Hp} {Q : VK} {p : Addr}
theorem ix_LN {a : List Nat} {z : Int} {i : Nat} (h : SqL K H p (vN a)) (hi : i < a.length) (e : z = (i : Int)) (q : Q (.int ((a.getD i 0 : Nat) : Int)) H) : rIxL K (.ref p) (.int z) H Q := ⟨p, _, _, _, rfl, rfl, h, at_vN e hi, q⟩
theorem ix_TN {a : List Nat} {z : Int} {i : Nat} (h : SqT K H p (vN a)) (hi : i < a.length) (e : z = (i : Int)) (q : Q (.int ((a.getD i 0 : Nat) : Int)) H) : rIxT K (.ref p) (.int z) H Q := ⟨p, _, _, _, rfl, rfl, h, at_vN e hi, q⟩
theorem ix_L {xs : List V} {z : Int} {i : Nat} {v : V} (h : SqL K H p xs) (hi : xs[i]? = some v) (e : z = (i : Int)) (q : Q v H) : rIxL K (.ref p) (.int z) H Q := ⟨p, _, _, _, rfl, rfl, h, at_of e hi, q⟩
theorem ix_T {xs : List V} {z : Int} {i : Nat} {v : V} (h : SqT K H p xs) (hi : xs[i]? = some v) (e : z = (i : Int)) (q : Q v H) : rIxT K (.ref p) (.int z) H Q := ⟨p, _, _, _, rfl, rfl, h, at_of e hi, q⟩
theorem len_L {xs : List V} (h : SqL K H p xs) (q : Q (.int (xs.length : Nat)) H) : rLenQ K [.ref p] H Q := ⟨p, xs, rfl, .inl h, q⟩
theorem len_T {xs : List V} (h : SqT K H p xs) (q : Q (.int (xs.length : Nat)) H) : rLenQ K [.ref p] H Q := ⟨p, xs, rfl, .inr h, q⟩
theorem len_LN {a : List Nat} (h : SqL K H p (vN a)) (q : Q (.int (a.length : Nat)) H) : rLenQ K [.ref p] H Q := ⟨p, _, rfl, .inl h, by rw [vN_len]; exact q⟩
theorem len_TN {a : List Nat} (h : SqT K H p (vN a)) (q : Q (.int (a.length : Nat)) H) : rLenQ K [.ref p] H Q := ⟨p, _, rfl, .inr h, by rw [vN_len]; exact q⟩
theorem len_TI {a : List Int} (h : SqT K H p (vI a)) (q : Q (.int (a.length : Nat)) H) : rLenQ K [.ref p] H Q := ⟨p, _, rfl, .inr h, by rw [vI_len]; exact q⟩
theorem len_LI {a : List Int} (h : SqL K H p (vI a)) (q : Q (.int (a.length : Nat)) H) : rLenQ K [.ref p] H Q := ⟨p, _, rfl, .inl h, by rw [vI_len]; exact q⟩
theorem eq_I {i j : Int} (q : Q (.bl (decide (i = j))) H) : rEq (.int i) (.int j) H Q := ⟨rfl, by
  have e : decide (V.int i = V.int j) = decide (i = j) := by
    by_cases h : i = j
    · rw [decide_eq_true h, decide_eq_true (by rw [h])]
    · rw [decide_eq_false h, decide_eq_false (fun z => h (V.int.inj z))]
  rw [e]; exact q⟩
theorem ne_I {i j : Int} (q : Q (.bl (!decide (i = j))) H) : rNe (.int i) (.int j) H Q := ⟨rfl, by
  have e : decide (V.int i = V.int j) = decide (i = j) := by
    by_cases h : i = j
    · rw [decide_eq_true h, decide_eq_true (by rw [h])]
    · rw [decide_eq_false h, decide_eq_false (fun z => h (V.int.inj z))]
  rw [e]; exact q⟩
theorem eq_B {i j : Bool} (q : Q (.bl (i == j)) H) : rEq (.bl i) (.bl j) H Q := ⟨rfl, by
  have e : decide (V.bl i = V.bl j) = (i == j) := by cases i <;> cases j <;> decide
  rw [e]; exact q⟩
theorem ne_B {i j : Bool} (q : Q (.bl (i != j)) H) : rNe (.bl i) (.bl j) H Q := ⟨rfl, by
  have e : (!decide (V.bl i = V.bl j)) = (i != j) := by cases i <;> cases j <;> decide
  rw [e]; exact q⟩
/-- % and // by a positive number below 2 ^ 30 -/
theorem mod_I {i j : Int} (h : 0 < j) (q : Q (.int (i % j)) H) : rModI (.int i) (.int j) H Q := ⟨i, j, rfl, rfl, by omega, by show Q (.int (i.fmod j)) H; rw [fmod_pos h]; exact q⟩
theorem div_I {i j : Int} (h : 0 < j) (h2 : j < 18446744073709551616) (q : Q (.int (i / j)) H) : rDivI (.int i) (.int j) H Q := ⟨i, j, rfl, rfl, ⟨by omega, by
  have h3 : j.natAbs < 2 ^ 64 := by show j.natAbs < 18446744073709551616; omega
  have := (Nat.log2_lt (n := j.natAbs) (k := 64) (by omega)).mpr h3
  omega⟩, by show Q (.int (i.fdiv j)) H; rw [fdiv_pos h]; exact q⟩
theorem mul_I {i j : Int} (h : (-(2 ^ 64) < i ∧ i < 2 ^ 64) ∨ (-(2 ^ 64) < j ∧ j < 2 ^ 64)) (q : Q (.int (i * j)) H) : rMulI (.int i) (.int j) H Q := ⟨i, j, rfl, rfl, h, q⟩
theorem seqIx {i n : Nat} {z : Int} (e : z = (i : Int)) (h : i < n) : seqIndex? z n = some i := by
  subst e
  unfold seqIndex?
  first
    | (rw [if_neg (by omega), if_pos (by omega)]; rfl)
    | (simp; omega)
theorem eraseIdx_map' {α β : Type} (f : α → β) : ∀ (l : List α) (i : Nat), (l.map f).eraseIdx i = (l.eraseIdx i).map f
  | [], _ => rfl
  | _ :: _, 0 => rfl
  | a :: l, i + 1 => by
    show f a :: (l.map f).eraseIdx i = f a :: (l.eraseIdx i).map f
    rw [eraseIdx_map' f l i]
theorem pop_N {a : List Nat} {z : Int} {i : Nat} (h : H p = some (.lst (vN a))) (hi : i < a.length) (hz : a.length ≤ 100000) (e : z = (i : Int)) (q : Q (.int ((a.getD i 0 : Nat) : Int)) (upd H p (.lst (vN (a.eraseIdx i))))) : rPopAt (.ref p) [.int z] H Q := by
  refine ⟨p, _, z, i, _, rfl, rfl, h, by omega, by omega, seqIx e (by rw [vN_len]; exact hi), vN_at (getD_at hi), ?_⟩
  have e2 : (vN a).eraseIdx i = vN (a.eraseIdx i) := by
    show (a.map _).eraseIdx i = (a.eraseIdx i).map _
    exact eraseIdx_map' _ _ _
  rw [e2]
  exact q
theorem app_N {a : List Nat} {n : Nat} (h : H p = some (.lst (vN a))) (hz : a.length < 100000) (q : Q .non (upd H p (.lst (vN (a ++ [n]))))) : rAppend (.ref p) [.int (n : Int)] H Q :=
  ⟨p, _, _, rfl, rfl, h, by rw [vN_len]; exact zlt hz, by
    have e : vN a ++ [V.int (n : Int)] = vN (a ++ [n]) := by
      show a.map _ ++ _ = (a ++ [n]).map _
      rw [List.map_append] <;> rfl
    rw [e]; exact q⟩
theorem app_V {xs : List V} {v : V} (h : H p = some (.lst xs)) (hz : xs.length < 100000) (q : Q .non (upd H p (.lst (xs ++ [v])))) : rAppend (.ref p) [v] H Q := ⟨p, _, _, rfl, rfl, h, zlt hz, q⟩
theorem isL {xs : List V} (h : SqL K H p xs) : tyV K "list" (.ref p) H := .inl ⟨rfl, _, h⟩
theorem tup_L {xs : List V} (h : SqL K H p xs) (q : ∀ l, H l = none → Q (.ref l) (upd H l (.tup xs))) : rTupOf K [.ref p] H Q := ⟨p, xs, rfl, .inl ⟨h, q⟩⟩
end
theorem rgV_N (n : Nat) : rgV 0 (n : Int) = vN (List.range n) := by
  show (List.range ((n : Int) - 0).toNat).map _ = (List.range n).map _
  have e : ((n : Int) - 0).toNat = n := by omega
  rw [e]
  refine List.map_congr_left fun i _ => ?_
  show V.int (0 + (i : Nat)) = V.int (i : Int)
  rw [Int.zero_add]
theorem rgOk_N {n : Nat} (h : n ≤ 100000) : RgOk 0 (n : Int) := .of_le (by omega) (by omega) (by omega) (by omega)

/-! ### permutations of 0 .. n - 1 -/
/-- the numbers 0 .. n - 1 in some order -/
def IsP (n : Nat) (a : List Nat) : Prop := a.Perm (List.range n)
theorem IsP.len {n : Nat} {a : List Nat} (h : IsP n a) : a.length = n := by rw [List.Perm.length_eq h, List.length_range]
theorem IsP.lt {n : Nat} {a : List Nat} (h : IsP n a) {x : Nat} (m : x ∈ a) : x < n := List.mem_range.mp ((List.Perm.mem_iff h).mp m)
theorem IsP.mem {n : Nat} {a : List Nat} (h : IsP n a) {x : Nat} (m : x < n) : x ∈ a := (List.Perm.mem_iff h).mpr (List.mem_range.mpr m)
theorem IsP.nd {n : Nat} {a : List Nat} (h : IsP n a) : a.Nodup := (List.Perm.nodup_iff h).mpr List.nodup_range
theorem IsP.getD_lt {n : Nat} {a : List Nat} (h : IsP n a) {i : Nat} (m : i < n) : a.getD i 0 < n := by
  have e := getD_at (a := a) (i := i) (by rw [h.len]; exact m)
  exact h.lt (List.mem_of_getElem? e)
theorem nd_sub_len {α : Type} [DecidableEq α] : ∀ {a m : List α}, a.Nodup → (∀ x ∈ a, x ∈ m) → a.length ≤ m.length
  | [], _, _, _ => Nat.zero_le _
  | x :: r, m, nd, hs => by
    obtain ⟨hx, nr⟩ := List.nodup_cons.mp nd
    have hm : x ∈ m := hs x List.mem_cons_self
    have ih : r.length ≤ (m.erase x).length := nd_sub_len nr fun y hy => by
      have hne : y ≠ x := fun e => hx (by rw [← e]; exact hy)
      exact (List.mem_erase_of_ne hne).mpr (hs y (List.mem_cons_of_mem _ hy))
    rw [List.length_erase_of_mem hm] at ih
    have : 0 < m.length := List.length_pos_of_mem hm
    show r.length + 1 ≤ _
    omega
/-- a list without twice the same, as long as it is told to be within m's: all of m -/
theorem perm_of_nd_sub : ∀ {a m : List Nat}, a.Nodup → (∀ x ∈ a, x ∈ m) → m.length ≤ a.length → a.Perm m
  | [], m, _, _, hl => by
    have : m = [] := List.length_eq_zero_iff.mp (Nat.le_zero.mp hl)
    rw [this]
  | x :: r, m, nd, hs, hl => by
    obtain ⟨hx, nr⟩ := List.nodup_cons.mp nd
    have hm : x ∈ m := hs x List.mem_cons_self
    have p1 : m.Perm (x :: m.erase x) := List.perm_cons_erase hm
    have ih : r.Perm (m.erase x) := by
      refine perm_of_nd_sub nr (fun y hy => ?_) ?_
      · have hne : y ≠ x := fun e => hx (e ▸ hy)
        exact (List.mem_erase_of_ne hne).mpr (hs y (List.mem_cons_of_mem _ hy))
      · rw [List.length_erase_of_mem hm]
        have : (x :: r).length = r.length + 1 := rfl
        omega
    exact (List.Perm.cons x ih).trans p1.symm
theorem isP_of_nd {n : Nat} {a : List Nat} (nd : a.Nodup) (hl : a.length = n) (hlt : ∀ x ∈ a, x < n) : IsP n a :=
  perm_of_nd_sub nd (fun x hx => List.mem_range.mpr (hlt x hx)) (by rw [List.length_range, hl]; exact Nat.le_refl n)
theorem isP_of_all {n : Nat} {a : List Nat} (hl : a.length = n) (h : ∀ k, k < n → k ∈ a) : IsP n a :=
  (perm_of_nd_sub List.nodup_range (fun x hx => h x (List.mem_range.mp hx)) (by rw [List.length_range, hl]; exact Nat.le_refl n)).symm

/-! ### joined and turned -/
def jn (a b : List Nat) : List Nat := a.map fun k => b.getD k 0
theorem jn_len (a b : List Nat) : (jn a b).length = a.length := List.length_map ..
theorem jn_get {a b : List Nat} {i : Nat} (h : i < a.length) : (jn a b).getD i 0 = b.getD (a.getD i 0) 0 := by
  unfold jn
  rw [List.getD_eq_getElem?_getD, List.getElem?_map, getD_at h] <;> rfl
theorem ext_getD {a b : List Nat} (hl : a.length = b.length) (h : ∀ i, i < a.length → a.getD i 0 = b.getD i 0) : a = b := by
  refine List.ext_getElem? fun i => ?_
  by_cases hi : i < a.length
  · rw [getD_at hi, getD_at (hl ▸ hi), h i hi]
  · rw [List.getElem?_eq_none (by omega), List.getElem?_eq_none (by omega)]
theorem nd_getD {a : List Nat} (nd : a.Nodup) {i j : Nat} (hi : i < a.length) (hj : j < a.length) (e : a.getD i 0 = a.getD j 0) : i = j := nd_ix nd (getD_at hi) (by rw [getD_at hj, e])
theorem nd_of_getD {a : List Nat} (h : ∀ i j, i < a.length → j < a.length → a.getD i 0 = a.getD j 0 → i = j) : a.Nodup := by
  refine List.pairwise_iff_getElem.mpr fun i j hi hj hij e => ?_
  have := h i j hi hj (by rw [List.getD_eq_getElem?_getD, List.getD_eq_getElem?_getD, List.getElem?_eq_getElem hi, List.getElem?_eq_getElem hj, e])
  omega
theorem isP_jn {n : Nat} {a b : List Nat} (ha : IsP n a) (hb : IsP n b) : IsP n (jn a b) := by
  refine isP_of_nd (nd_of_getD fun i j hi hj e => ?_) (by rw [jn_len, ha.len]) fun x hx => ?_
  · rw [jn_len] at hi hj
    rw [jn_get hi, jn_get hj] at e
    have hi' : a.getD i 0 < b.length := by rw [hb.len]; exact ha.getD_lt (by rw [← ha.len]; exact hi)
    have hj' : a.getD j 0 < b.length := by rw [hb.len]; exact ha.getD_lt (by rw [← ha.len]; exact hj)
    exact nd_getD ha.nd hi hj (nd_getD hb.nd hi' hj' e)
  · obtain ⟨k, hk, rfl⟩ := List.mem_map.mp hx
    exact hb.getD_lt (ha.lt hk)
theorem isP_id (n : Nat) : IsP n (List.range n) := List.Perm.refl _
/-- the way back as the program makes it -/
def trnSt (a : List Nat) (k : Nat) : List Nat := (List.range k).foldl (fun row i => row.set (a.getD i 0) i) (List.replicate a.length 0)
def trn (a : List Nat) : List Nat := trnSt a a.length
theorem trnSt_succ (a : List Nat) (k : Nat) : trnSt a (k + 1) = (trnSt a k).set (a.getD k 0) k := by
  unfold trnSt
  rw [List.range_succ, List.foldl_append] <;> rfl
theorem trnSt_len (a : List Nat) : ∀ k, (trnSt a k).length = a.length
  | 0 => List.length_replicate
  | k + 1 => by rw [trnSt_succ, List.length_set, trnSt_len a k]
theorem trnSt_get {n : Nat} {a : List Nat} (h : IsP n a) : ∀ k, k ≤ n → ∀ i, i < k → (trnSt a k).getD (a.getD i 0) 0 = i
  | 0, _, i, hi => absurd hi (Nat.not_lt_zero i)
  | k + 1, hk, i, hi => by
    have hka : k < a.length := by rw [h.len]; omega
    rw [trnSt_succ, List.getD_eq_getElem?_getD]
    by_cases e : i = k
    · subst e
      rw [List.getElem?_set_self (by rw [trnSt_len, h.len]; exact h.getD_lt (by omega))] <;> rfl
    · have hne : a.getD k 0 ≠ a.getD i 0 := fun z => e (nd_getD h.nd (by omega) hka z.symm)
      rw [List.getElem?_set_ne hne, ← List.getD_eq_getElem?_getD]
      exact trnSt_get h k (by omega) i (by omega)
theorem trn_len (a : List Nat) : (trn a).length = a.length := trnSt_len a _
theorem trn_get {n : Nat} {a : List Nat} (h : IsP n a) {i : Nat} (hi : i < n) : (trn a).getD (a.getD i 0) 0 = i := trnSt_get h a.length (by rw [h.len]; exact Nat.le_refl n) i (by rw [h.len]; exact hi)
theorem isP_get_of {n : Nat} {a : List Nat} (h : IsP n a) {x : Nat} (hx : x < n) : ∃ i, i < n ∧ a.getD i 0 = x := by
  obtain ⟨i, hi, e⟩ := List.getElem_of_mem (h.mem hx)
  refine ⟨i, by rw [← h.len]; exact hi, ?_⟩
  rw [List.getD_eq_getElem?_getD, List.getElem?_eq_getElem hi, e] <;> rfl
theorem isP_trn {n : Nat} {a : List Nat} (h : IsP n a) : IsP n (trn a) := by
  refine isP_of_all (by rw [trn_len, h.len]) fun k hk => ?_
  have e := trn_get h hk
  have hl : a.getD k 0 < (trn a).length := by rw [trn_len, h.len]; exact h.getD_lt hk
  have m := List.mem_of_getElem? (getD_at hl)
  rw [e] at m
  exact m
theorem trn_get' {n : Nat} {a : List Nat} (h : IsP n a) {x : Nat} (hx : x < n) : a.getD ((trn a).getD x 0) 0 = x := by
  obtain ⟨i, hi, e⟩ := isP_get_of h hx
  rw [← e, trn_get h hi]
theorem jn_trn {n : Nat} {a : List Nat} (h : IsP n a) : jn a (trn a) = List.range n := by
  refine ext_getD (by rw [jn_len, h.len, List.length_range]) fun i hi => ?_
  rw [jn_len] at hi
  have hi' : i < n := by rw [← h.len]; exact hi
  rw [jn_get hi, trn_get h hi', List.getD_eq_getElem?_getD, List.getElem?_range hi'] <;> rfl
theorem trn_jn {n : Nat} {a : List Nat} (h : IsP n a) : jn (trn a) a = List.range n := by
  refine ext_getD (by rw [jn_len, trn_len, h.len, List.length_range]) fun i hi => ?_
  rw [jn_len, trn_len] at hi
  have hi' : i < n := by rw [← h.len]; exact hi
  rw [jn_get (by rw [trn_len]; exact hi), trn_get' h hi', List.getD_eq_getElem?_getD, List.getElem?_range hi'] <;> rfl
theorem range_getD {n i : Nat} (h : i < n) : (List.range n).getD i 0 = i := by rw [List.getD_eq_getElem?_getD, List.getElem?_range h] <;> rfl
theorem jn_id {n : Nat} {a : List Nat} (h : ∀ x ∈ a, x < n) : jn a (List.range n) = a := by
  unfold jn
  conv => rhs; rw [← List.map_id a]
  exact List.map_congr_left fun x hx => range_getD (h x hx)
theorem id_jn (a : List Nat) : jn (List.range a.length) a = a := by
  refine ext_getD (by rw [jn_len, List.length_range]) fun i hi => ?_
  rw [jn_len, List.length_range] at hi
  rw [jn_get (by rw [List.length_range]; exact hi), range_getD hi]
theorem jn_assoc {a b c : List Nat} (h : ∀ x ∈ a, x < b.length) : jn (jn a b) c = jn a (jn b c) := by
  unfold jn
  rw [List.map_map]
  refine List.map_congr_left fun x hx => ?_
  show c.getD (b.getD x 0) 0 = (jn b c).getD x 0
  rw [jn_get (h x hx)]
/-- a seating -/
def SeatB (a : List Int) : Bool := decide (1 ≤ a.length) && decide (a.length ≤ 16) && (List.range a.length).all fun k => decide ((k : Int) ∈ a)
theorem seatB_N {n : Nat} {a : List Nat} (h : IsP n a) (h1 : 1 ≤ n) (h2 : n ≤ 16) : SeatB (a.map fun (x : Nat) => (x : Int)) = true := by
  unfold SeatB
  rw [List.length_map, h.len, decide_eq_true h1, decide_eq_true h2]
  refine List.all_eq_true.mpr fun k hk => decide_eq_true ?_
  exact List.mem_map.mpr ⟨k, h.mem (List.mem_range.mp hk), rfl⟩
theorem seatB_is {a : List Int} (h : SeatB a = true) : ∃ b : List Nat, IsP a.length b ∧ a = b.map (fun (x : Nat) => (x : Int)) ∧ 1 ≤ a.length ∧ a.length ≤ 16 := by
  unfold SeatB at h
  rw [Bool.and_eq_true, Bool.and_eq_true] at h
  obtain ⟨⟨h1, h2⟩, h3⟩ := h
  have h3 := List.all_eq_true.mp h3
  have hin : ∀ k, k < a.length → k ∈ a.map Int.toNat := fun k hk => by
    have q := of_decide_eq_true (h3 k (List.mem_range.mpr hk))
    exact List.mem_map.mpr ⟨_, q, by omega⟩
  have P : IsP a.length (a.map Int.toNat) := isP_of_all (List.length_map ..) hin
  have nn : ∀ x ∈ a, 0 ≤ x := by
    -- were one below nought, its place would be free for none of 0 .. n - 1
    have hall : ∀ k, k < a.length → (k : Int) ∈ a := fun k hk => of_decide_eq_true (h3 k (List.mem_range.mpr hk))
    have : (List.range a.length).map (fun (x : Nat) => (x : Int)) |>.Nodup := by
      refine List.pairwise_map.mpr (List.Pairwise.imp (fun hne e => hne (Int.ofNat.inj e)) (List.nodup_range (n := a.length)))
    intro x hx
    refine Decidable.byContradiction fun hneg => ?_
    have hsub : ∀ y ∈ (List.range a.length).map (fun (x : Nat) => (x : Int)), y ∈ a.erase x := fun y hy => by
      obtain ⟨k, hk, e⟩ := List.mem_map.mp hy
      have hne : y ≠ x := fun z => by
        have : (k : Int) = x := e.trans z
        omega
      refine (List.mem_erase_of_ne hne).mpr ?_
      rw [← e]
      exact hall k (List.mem_range.mp hk)
    have hle := nd_sub_len this hsub
    rw [List.length_map, List.length_range, List.length_erase_of_mem hx] at hle
    have : 0 < a.length := List.length_pos_of_mem hx
    omega
  refine ⟨a.map Int.toNat, P, ?_, of_decide_eq_true h1, of_decide_eq_true h2⟩
  rw [List.map_map]
  conv => lhs; rw [← List.map_id a]
  exact List.map_congr_left fun x hx => by
    show x = ((x.toNat : Nat) : Int)
    have := nn x hx
    omega
/-! ### data as a whole -/
section
variable {K : PySem.W.Frag} {H : Hp} {Q : VK} {p q : Addr}
theorem dpAll_of : ∀ {xs : List V} {ds : List PyData}, (∀ (i : Nat) (x : V) (d : PyData), xs[i]? = some x → ds[i]? = some d → Dp K H x d) → xs.length = ds.length → DpAll K H xs ds
  | [], [], _, _ => .nil
  | [], _ :: _, _, h => by simp at h
  | _ :: _, [], _, h => by simp at h
  | x :: xs, d :: ds, h, hl => .cons (h 0 x d rfl rfl) (dpAll_of (fun i y e h1 h2 => h (i + 1) y e (by simpa using h1) (by simpa using h2)) (by simpa using hl))
theorem dpAll_I : ∀ (a : List Int), DpAll K H (vI a) (a.map PyData.int)
  | [] => .nil
  | x :: r => .cons (.int x) (dpAll_I r)
def dT (a : List Int) : PyData := .tuple (a.map PyData.int)
def dL (a : List Int) : PyData := .list (a.map PyData.int)
theorem dp_T {a : List Int} (h : SqT K H p (vI a)) : Dp K H (.ref p) (dT a) := .tup h (dpAll_I a)
theorem dp_L {a : List Int} (h : SqL K H p (vI a)) : Dp K H (.ref p) (dL a) := .lst h (dpAll_I a)
theorem eqvAll_map {α : Type} [DecidableEq α] {f : α → PyData} (h : ∀ x y, PyData.eqv (f x) (f y) = decide (x = y)) : ∀ (a b : List α), PyData.eqvAll (a.map f) (b.map f) = decide (a = b)
  | [], [] => by rw [decide_eq_true rfl] <;> simp [PyData.eqvAll]
  | [], _ :: _ => by rw [decide_eq_false (fun z => by cases z)] <;> simp [PyData.eqvAll]
  | _ :: _, [] => by rw [decide_eq_false (fun z => by cases z)] <;> simp [PyData.eqvAll]
  | x :: a, y :: b => by
    show PyData.eqvAll (f x :: a.map f) (f y :: b.map f) = _
    unfold PyData.eqvAll
    rw [h, eqvAll_map h a b]
    by_cases e : x = y
    · subst e
      by_cases e2 : a = b
      · subst e2; simp
      · rw [decide_eq_false e2, Bool.and_false, decide_eq_false (fun z => e2 (List.cons.inj z).2)]
    · rw [decide_eq_false e, Bool.false_and, decide_eq_false (fun z => e (List.cons.inj z).1)]
theorem eqv_int (x y : Int) : PyData.eqv (.int x) (.int y) = decide (x = y) := by
  unfold PyData.eqv
  by_cases e : x = y
  · subst e; simp
  · rw [decide_eq_false e]; simpa using e
theorem eqv_T (a b : List Int) : PyData.eqv (dT a) (dT b) = decide (a = b) := by
  unfold dT PyData.eqv
  exact eqvAll_map eqv_int a b
theorem eqv_L (a b : List Int) : PyData.eqv (dL a) (dL b) = decide (a = b) := by
  unfold dL PyData.eqv
  exact eqvAll_map eqv_int a b
theorem canAll_map {α : Type} {f : α → PyData} (h : ∀ x, (f x).canLay0 = true) : ∀ (a : List α), PyData.canLayAll0 (a.map f) = true
  | [] => by simp [PyData.canLayAll0]
  | x :: a => by
    show PyData.canLayAll0 (f x :: a.map f) = true
    unfold PyData.canLayAll0
    rw [h x, canAll_map h a] <;> rfl
theorem depthAll_map {α : Type} {f : α → PyData} {n : Nat} (h : ∀ x, (f x).depth ≤ n) : ∀ (a : List α), PyData.depthAll (a.map f) ≤ n
  | [] => by simp [PyData.depthAll]
  | x :: a => by
    show PyData.depthAll (f x :: a.map f) ≤ n
    have h1 := h x
    have h2 := depthAll_map h a
    unfold PyData.depthAll
    omega
theorem can_T (a : List Int) : (dT a).canLay0 = true := by
  unfold dT PyData.canLay0
  exact canAll_map (fun x => by simp [PyData.canLay0]) a
theorem can_L (a : List Int) : (dL a).canLay0 = true := by
  unfold dL PyData.canLay0
  exact canAll_map (fun x => by simp [PyData.canLay0]) a
theorem dep_T (a : List Int) : (dT a).depth ≤ 1 := by
  unfold dT PyData.depth
  have := depthAll_map (f := PyData.int) (n := 0) (fun x => by simp [PyData.depth]) a
  omega
theorem dep_L (a : List Int) : (dL a).depth ≤ 1 := by
  unfold dL PyData.depth
  have := depthAll_map (f := PyData.int) (n := 0) (fun x => by simp [PyData.depth]) a
  omega
theorem shp {d : PyData} (h : d.canLay0 = true) (h2 : d.depth ≤ 64) : SeqAt.shaped d = true := by
  unfold SeqAt.shaped
  rw [h, decide_eq_true h2] <;> rfl
theorem shp_T (a : List Int) : SeqAt.shaped (dT a) = true := shp (can_T a) (by have := dep_T a; omega)
theorem shp_L (a : List Int) : SeqAt.shaped (dL a) = true := shp (can_L a) (by have := dep_L a; omega)
theorem eq_TI {a b : List Int} (ha : SqT K H p (vI a)) (hb : SqT K H q (vI b)) (k : Q (.bl (decide (a = b))) H) : rEqD K (.ref p) (.ref q) H Q := ⟨dT a, dT b, dp_T ha, dp_T hb, shp_T a, shp_T b, by rw [eqv_T]; exact k⟩
theorem ne_TI {a b : List Int} (ha : SqT K H p (vI a)) (hb : SqT K H q (vI b)) (k : Q (.bl (!decide (a = b))) H) : rNeD K (.ref p) (.ref q) H Q := ⟨dT a, dT b, dp_T ha, dp_T hb, shp_T a, shp_T b, by rw [eqv_T]; exact k⟩
theorem vInj {a b : List Nat} : (a.map (fun (x : Nat) => (x : Int)) = b.map (fun (x : Nat) => (x : Int))) ↔ a = b := by
  constructor
  · intro h
    have e := congrArg (List.map Int.toNat) h
    rw [List.map_map, List.map_map] at e
    have i : (Int.toNat ∘ fun (x : Nat) => (x : Int)) = id := by funext x; rfl
    rw [i, List.map_id, List.map_id] at e
    exact e
  · intro h; rw [h]
theorem dec_iff {p q : Prop} [Decidable p] [Decidable q] (h : p ↔ q) : decide p = decide q := by
  by_cases hp : p
  · rw [decide_eq_true hp, decide_eq_true (h.mp hp)]
  · rw [decide_eq_false hp, decide_eq_false (fun z => hp (h.mpr z))]
theorem eq_TN {a b : List Nat} (ha : SqT K H p (vN a)) (hb : SqT K H q (vN b)) (k : Q (.bl (decide (a = b))) H) : rEqD K (.ref p) (.ref q) H Q := by
  rw [vN_eq] at ha hb
  refine eq_TI ha hb ?_
  rw [dec_iff vInj]
  exact k
theorem ne_TN {a b : List Nat} (ha : SqT K H p (vN a)) (hb : SqT K H q (vN b)) (k : Q (.bl (!decide (a = b))) H) : rNeD K (.ref p) (.ref q) H Q := by
  rw [vN_eq] at ha hb
  refine ne_TI ha hb ?_
  rw [dec_iff vInj]
  exact k
theorem set_N {a : List Nat} {z : Int} {i n : Nat} {R : Hp → Prop} (h : H p = some (.lst (vN a))) (hi : i < a.length) (e : z = (i : Int)) (k : R (upd H p (.lst (vN (a.set i n))))) : rSetL (.ref p) (.int z) (.int (n : Int)) H R := by
  refine ⟨p, _, z, i, rfl, rfl, h, ?_, ?_⟩
  · unfold ixN
    rw [vN_len, if_pos (by omega), if_pos (by omega), e] <;> rfl
  · have e2 : (vN a).set i (V.int (n : Int)) = vN (a.set i n) := by
      show (a.map _).set i _ = (a.set i n).map _
      rw [List.map_set]
    rw [e2]
    exact k
theorem rep_0 {n : Nat} (hn : n ≤ 100000) (h : H p = some (.lst [V.int 0])) (k : ∀ l, H l = none → Q (.ref l) (upd H l (.lst (vN (List.replicate n 0))))) : rRep (.ref p) (.int (n : Int)) H Q := by
  refine ⟨p, _, _, rfl, rfl, h, by omega, by omega, zl (by show 1 * ((n : Int)).toNat ≤ 100000; omega), fun l hl => ?_⟩
  have e : (List.replicate ((n : Int)).toNat [V.int 0]).flatten = vN (List.replicate n 0) := by
    show (List.replicate n [V.int 0]).flatten = (List.replicate n 0).map _
    rw [List.map_replicate]
    clear k hl
    induction n with
    | zero => rfl
    | succ m ih => rw [List.replicate_succ, List.flatten_cons, ih (by omega), List.replicate_succ] <;> rfl
  rw [e]
  exact k l hl
end
theorem if_nd {c : Prop} [Decidable c] {A B : Prop} (h1 : ¬ c → A) (h2 : c → B) : if (!decide c) = true then A else B := by
  by_cases h : c
  · rw [decide_eq_true h]; exact if_f rfl (h2 h)
  · rw [decide_eq_false h]; exact if_t rfl (h1 h)
theorem if_nb {c : Bool} {A B : Prop} (h1 : c = false → A) (h2 : c = true → B) : if (!c) = true then A else B := by
  cases c with
  | true => exact if_f rfl (h2 rfl)
  | false => exact if_t rfl (h1 rfl)
theorem take_more {α : Type} {l : List α} {i : Nat} {x : α} (h : l[i]? = some x) : l.take (i + 1) = l.take i ++ [x] := by
  rw [List.take_add_one, h] <;> rfl
theorem vN_get {a : List Nat} {i : Nat} {x : V} (h : (vN a)[i]? = some x) : ∃ n, a[i]? = some n ∧ x = V.int (n : Int) := by
  have h : (a.map fun (n : Nat) => V.int (n : Int))[i]? = some x := h
  rw [List.getElem?_map] at h
  cases e : a[i]? with
  | none => rw [e] at h; cases h
  | some n => rw [e] at h; exact ⟨n, rfl, (Option.some.inj h).symm⟩
theorem vN_app (a : List Nat) (n : Nat) : vN a ++ [V.int (n : Int)] = vN (a ++ [n]) := by
  show a.map _ ++ _ = (a ++ [n]).map _
  rw [List.map_append] <;> rfl
theorem rangeS {α : Type} (f : Nat → α) (j : Nat) : (List.range (j + 1)).map f = (List.range j).map f ++ [f j] := by rw [List.range_succ, List.map_append] <;> rfl
end Shf

local macro_rules | `(tactic| walk_at "ex") => `(tactic| repeat (with_reducible first
  | refine Shf.w_op ?_ | refine Shf.w_c ?_
  | (show L2.tVar _ _ _ _; with_unfolding_all refine Shf.w_var rfl ?_)
  | refine Shf.w_nil ?_ | refine Shf.w_cons ?_ | refine Shf.w_cb ?_ | refine Shf.w_call ?_ | refine Shf.w_test ?_ | refine Shf.w_b ?_ | refine Shf.w_bex ?_
  | refine Shf.w_and ?_ | refine Shf.w_or ?_ | refine Shf.w_not ?_ | refine Shf.w_andV ?_ | refine Shf.w_orV ?_ | refine Shf.w_notV ?_ | refine Shf.w_ife ?_
  | refine Shf.w_add ?_ | refine Shf.w_sub ?_ | refine Shf.w_neg ?_ | refine Shf.w_lt ?_ | refine Shf.w_le ?_ | refine Shf.w_gt ?_ | refine Shf.w_ge ?_ | refine Shf.eq_I ?_ | refine Shf.ne_I ?_ | refine Shf.eq_B ?_ | refine Shf.ne_B ?_
  | refine Shf.w_tup ?_ | refine Shf.w_lst ?_ | refine Shf.w_lrg ?_ | refine Shf.w_trg ?_ | refine Shf.w_rg1 ?_ | refine Shf.w_iex ?_ | refine Shf.w_bm ?_ | refine Shf.w_bm0 ?_ | refine Shf.w_un ?_ | refine Shf.w_fld ?_ | refine Shf.w_dget ?_ | refine Shf.w_dget1 ?_ | refine Shf.w_meth ?_ | refine Shf.w_make ?_
  | refine Shf.w_yes ?_ | refine L2.iteT ?_ | refine L2.iteF ?_ | refine Shf.w_irng1 ?_ | refine Shf.w_irng2 ?_ | refine Shf.w_ilist ?_ | refine Shf.w_itup ?_))
local macro_rules | `(tactic| walk_at "st") => `(tactic| with_reducible first | refine Shf.w_asg ?_ | refine Shf.w_drop ?_ | refine Shf.w_ret ?_ | refine Shf.w_next ?_ | refine Shf.w_asgS ?_ | refine Shf.w_sfld ?_ | refine Shf.w_for ?_ | refine Shf.w_if ?_)
local macro_rules | `(tactic| walk_at "sq") => `(tactic| with_reducible refine Shf.w_seq ?_)
local macro_rules | `(tactic| walk_at "re") => `(tactic| repeat (with_reducible first
  | refine Shf.w_asg ?_ | refine Shf.w_drop ?_ | refine Shf.w_ret ?_ | refine Shf.w_next ?_ | refine Shf.w_op ?_ | refine Shf.w_c ?_
  | (show L2.tVar _ _ _ _; with_unfolding_all refine Shf.w_var rfl ?_)
  | refine Shf.w_nil ?_ | refine Shf.w_cons ?_ | refine Shf.w_cb ?_ | refine Shf.w_call ?_ | refine Shf.w_test ?_ | refine Shf.w_b ?_ | refine Shf.w_bex ?_
  | refine Shf.w_and ?_ | refine Shf.w_or ?_ | refine Shf.w_not ?_ | refine Shf.w_andV ?_ | refine Shf.w_orV ?_ | refine Shf.w_notV ?_ | refine Shf.w_ife ?_
  | refine Shf.w_add ?_ | refine Shf.w_sub ?_ | refine Shf.w_neg ?_ | refine Shf.w_lt ?_ | refine Shf.w_le ?_ | refine Shf.w_gt ?_ | refine Shf.w_ge ?_ | refine Shf.eq_I ?_ | refine Shf.ne_I ?_ | refine Shf.eq_B ?_ | refine Shf.ne_B ?_
  | refine Shf.w_tup ?_ | refine Shf.w_lst ?_ | refine Shf.w_lrg ?_ | refine Shf.w_trg ?_ | refine Shf.w_rg1 ?_ | refine Shf.w_iex ?_ | refine Shf.w_bm ?_ | refine Shf.w_bm0 ?_ | refine Shf.w_un ?_ | refine Shf.w_asgS ?_ | refine Shf.w_fld ?_ | refine Shf.w_sfld ?_ | refine Shf.w_dget ?_ | refine Shf.w_dget1 ?_ | refine Shf.w_meth ?_ | refine Shf.w_make ?_
  | refine Shf.w_yes ?_ | refine L2.iteT ?_ | refine L2.iteF ?_ | refine Shf.w_irng1 ?_ | refine Shf.w_irng2 ?_ | refine Shf.w_ilist ?_ | refine Shf.w_itup ?_))
local macro_rules | `(tactic| walk_at "rd") => `(tactic| repeat (with_reducible first
  | refine Shf.w_seq ?_ | refine Shf.w_if ?_ | refine Shf.w_asg ?_ | refine Shf.w_drop ?_ | refine Shf.w_ret ?_ | refine Shf.w_next ?_ | refine Shf.w_op ?_ | refine Shf.w_c ?_
  | (show L2.tVar _ _ _ _; with_unfolding_all refine Shf.w_var rfl ?_)
  | refine Shf.w_nil ?_ | refine Shf.w_cons ?_ | refine Shf.w_cb ?_ | refine Shf.w_call ?_ | refine Shf.w_test ?_ | refine Shf.w_b ?_ | refine Shf.w_bex ?_
  | refine Shf.w_and ?_ | refine Shf.w_or ?_ | refine Shf.w_not ?_ | refine Shf.w_andV ?_ | refine Shf.w_orV ?_ | refine Shf.w_notV ?_ | refine Shf.w_ife ?_
  | refine Shf.w_add ?_ | refine Shf.w_sub ?_ | refine Shf.w_neg ?_ | refine Shf.w_lt ?_ | refine Shf.w_le ?_ | refine Shf.w_gt ?_ | refine Shf.w_ge ?_ | refine Shf.eq_I ?_ | refine Shf.ne_I ?_ | refine Shf.eq_B ?_ | refine Shf.ne_B ?_
  | refine Shf.w_tup ?_ | refine Shf.w_lst ?_ | refine Shf.w_lrg ?_ | refine Shf.w_trg ?_ | refine Shf.w_rg1 ?_ | refine Shf.w_iex ?_ | refine Shf.w_bm ?_ | refine Shf.w_bm0 ?_ | refine Shf.w_un ?_ | refine Shf.w_asgS ?_ | refine Shf.w_fld ?_ | refine Shf.w_sfld ?_ | refine Shf.w_dget ?_ | refine Shf.w_dget1 ?_ | refine Shf.w_meth ?_ | refine Shf.w_make ?_
  | refine Shf.w_yes ?_ | refine L2.iteT ?_ | refine L2.iteF ?_ | refine Shf.w_for ?_ | refine Shf.w_irng1 ?_ | refine Shf.w_irng2 ?_ | refine Shf.w_ilist ?_ | refine Shf.w_itup ?_))
/-! the seats: is_seating .. back; the laws' common helpers -/
namespace Shf
open PySem L2
def sp_law (K : PySem.W.Frag) : Sp := fun vs H Q _ => ∃ (a : Addr) (ns : List Int), vs = [.ref a] ∧ SqL K H a (ns.map V.int) ∧ ns.length ≤ 63 ∧ ∀ H', Q (.bl true) H'
theorem len_law (K : PySem.W.Frag) (g : Gd) (vs : List V) (H : Hp) (Q : VK) (E : XK) (h : sp_law K vs H Q E) : vs.length = 1 := by obtain ⟨_, _, rfl, _⟩ := h; rfl
/-- the reading of a def's body -/
abbrev Rd1 (t : TS) (N : List Str) (vs : List V) (H : Hp) (Q : VK) : Prop := t { nx := fun _ H' => Q .non H', rt := Q } (start N vs) H
/-- membership of an int in a list of ints -/
theorem inV_I (x : Int) (a : List Int) : inV (V.int x) (vI a) = decide (x ∈ a) := by
  unfold inV
  rw [List.any_map]
  induction a with
  | nil => rfl
  | cons y r ih =>
    rw [List.any_cons, ih]
    show (eqV (V.int y) (V.int x) || _) = _
    by_cases e : x = y
    · subst e
      have : eqV (V.int x) (V.int x) = true := by simp [eqV]
      rw [this, decide_eq_true (List.mem_cons_self)] <;> rfl
    · have : eqV (V.int y) (V.int x) = false := by simp [eqV]; exact fun z => e z.symm
      rw [this, Bool.false_or]
      by_cases m : x ∈ r
      · rw [decide_eq_true m, decide_eq_true (List.mem_cons_of_mem _ m)]
      · rw [decide_eq_false m, decide_eq_false (fun z => by rcases List.mem_cons.mp z with z | z; exact e z; exact m z)]
theorem flat_I (a : List Int) : (vI a).all flatV = true := by
  rw [List.all_map]
  exact List.all_eq_true.mpr fun _ _ => rfl
section
variable {K : PySem.W.Frag} {H : Hp} {Q : VK} {p : Addr}
theorem in_TI {a : List Int} {x : Int} (h : SqT K H p (vI a)) (k : Q (.bl (decide (x ∈ a))) H) : rIn K false (.int x) (.ref p) H Q := ⟨p, _, rfl, .inr h, rfl, flat_I a, by rw [inV_I]; exact k⟩
theorem notin_TI {a : List Int} {x : Int} (h : SqT K H p (vI a)) (k : Q (.bl (!decide (x ∈ a))) H) : rIn K true (.int x) (.ref p) H Q := ⟨p, _, rfl, .inr h, rfl, flat_I a, by rw [inV_I]; exact k⟩
theorem in_LI {a : List Int} {x : Int} (h : SqL K H p (vI a)) (k : Q (.bl (decide (x ∈ a))) H) : rIn K false (.int x) (.ref p) H Q := ⟨p, _, rfl, .inl h, rfl, flat_I a, by rw [inV_I]; exact k⟩
theorem notin_LI {a : List Int} {x : Int} (h : SqL K H p (vI a)) (k : Q (.bl (!decide (x ∈ a))) H) : rIn K true (.int x) (.ref p) H Q := ⟨p, _, rfl, .inl h, rfl, flat_I a, by rw [inV_I]; exact k⟩
end
theorem set_I {H : Hp} {p : Addr} {a : List Int} {z n : Int} {i : Nat} {R : Hp → Prop} (h : H p = some (.lst (vI a))) (hi : i < a.length) (e : z = (i : Int)) (k : R (upd H p (.lst (vI (a.set i n))))) : rSetL (.ref p) (.int z) (.int n) H R := by
  refine ⟨p, _, z, i, rfl, rfl, h, ?_, ?_⟩
  · unfold ixN
    rw [vI_len, if_pos (by omega), if_pos (by omega), e] <;> rfl
  · have e2 : (vI a).set i (V.int n) = vI (a.set i n) := by
      show (a.map _).set i _ = (a.set i n).map _
      rw [List.map_set]
    rw [e2]
    exact k
theorem pow_10 {H : Hp} {Q : VK} {n : Nat} (hn : n ≤ 1000) (k : Q (.int (10 ^ n)) H) : rPowI (.int 10) (.int (n : Int)) H Q := ⟨10, n, rfl, rfl, ⟨by omega, by omega, by decide⟩, k⟩
theorem is_bl {K : PySem.W.Frag} {H : Hp} {Q : VK} {b : Bool} (k : Q (.bl true) H) : rIsi K [.bl b, .ty "bool"] H Q := ⟨_, _, .type "bool", _, true, rfl, .ty "bool", .base (.bl b), kit_ty (by decide +kernel), k⟩
theorem is_lst {K : PySem.W.Frag} {H : Hp} {Q : VK} {p : Addr} {xs : List V} (h : H p = some (.lst xs)) (k : Q (.bl true) H) : rIsi K [.ref p, .ty "list"] H Q :=
  ⟨_, _, .type "list", _, true, rfl, .ty "list", .base (.lst h), kit_ty (by decide +kernel), k⟩
theorem is_bool {K : PySem.W.Frag} {H : Hp} {Q : VK} {b : Bool} (k : Q (.bl true) H) : rIsi K [.bl b, .ty "bool"] H Q := ⟨_, _, .type "bool", _, true, rfl, .ty "bool", .base (.bl b), kit_ty (by decide +kernel), k⟩
theorem is_tup {K : PySem.W.Frag} {H : Hp} {Q : VK} {p : Addr} {xs : List V} (h : H p = some (.tup xs)) (k : Q (.bl true) H) : rIsi K [.ref p, .ty "tuple"] H Q :=
  ⟨_, _, .type "tuple", _, true, rfl, .ty "tuple", .base (.tup h), kit_ty (by decide +kernel), k⟩
theorem is_str {K : PySem.W.Frag} {H : Hp} {Q : VK} {b : Str} (k : Q (.bl true) H) : rIsi K [.str b, .ty "str"] H Q := ⟨_, _, .type "str", _, true, rfl, .ty "str", .base (.str b), kit_ty (by decide +kernel), k⟩
theorem ix_lastV' {K : PySem.W.Frag} {H : Hp} {Q : VK} {p : Addr} {xs : List V} {v : V} {z : Int} (h : SqL K H p (xs ++ [v])) (e : z = -1) (q : Q v H) : rIxL K (.ref p) (.int z) H Q := by
  subst e
  exact ⟨p, _, _, _, rfl, rfl, h, atI_last _ _, q⟩
theorem _root_.L2.Same.lst {K : PySem.W.Frag} {H H' : Hp} {a : Addr} {xs : List V} (e : Same H H') (h : SqL K H a xs) : SqL K H' a xs := e.seq h
theorem w_lc {wi : TI} {g : TG} {tt : TT} {te : TE} {vs : List Nat} {σ : L2.St} {H : Hp} {Q : VK} (h : wi σ H fun J H1 => ∀ D, H1 D = none → ∃ W : Nat → Nat → Hp → Prop, (∃ m, W 0 m (upd H1 D (.lst []))) ∧ ∀ i m H, W i m H →
  (J.stop i H ∧ Q (.ref D) H) ∨ (J.go i H ∧ ∃ Nx : Hp → Prop, (∀ H', Nx H' → ∃ m', m' < m ∧ W (i + 1) m' H') ∧ ∀ x H', J.yld i H x H' → g x (wipe σ vs) H' fun σ2 H2 => wipe σ2 vs = wipe σ vs ∧ tt σ2 H2 fun b H3 =>
    if b = true then te σ2 H3 fun y H4 => ∃ acc, H4 D = some (.lst acc) ∧ acc.length < sizeLine ∧ Nx (upd H4 D (.lst (acc ++ [y]))) else Nx H3)) : tLc wi g tt te vs σ H Q := h
def sp_L_cell_at (K : PySem.W.Frag) (g : Gd) : Sp := fun vs H Q _ => ∃ (a : Addr) (ns : List Int) (j : Nat), vs = [.ref a, .int (j : Int)] ∧ SqL K H a (vI ns) ∧ Q (.int (ns.getD j 0)) H
theorem len_L_cell_at (K : PySem.W.Frag) (g : Gd) (vs : List V) (H : Hp) (Q : VK) (E : XK) (h : sp_L_cell_at K g vs H Q E) : vs.length = 2 := by obtain ⟨_, _, _, rfl, _⟩ := h; rfl
abbrev N_L_cell_at : List Str := ["script", "k"]
/-- _law_cell_at -/
def t_L_cell_at (K : PySem.W.Frag) (g : Gd) (E : XK) : TS :=
  (tSeq (tIfS (tTest (tOp rLtI (tVar 1) (tCB (rLenQ K) (tCons (tVar 0) tNil)))) (tRet (tOp (rIxL K) (tVar 0) (tVar 1))) tNext)
    (tRet (tC (.int 0))))
theorem pure_L_cell_at {K : PySem.W.Frag} {g : Gd} (vs : List V) (H : Hp) (Q : VK) (E : XK) (h : sp_L_cell_at K g vs H Q E) : Rd1 (t_L_cell_at K g E) N_L_cell_at vs H Q := by
  obtain ⟨a, ns, j, rfl, hS, k⟩ := h
  unfold t_L_cell_at
  walk_at "rd"
  refine len_LI hS ?_
  walk_at "rd"
  refine if_d (fun c => ?_) (fun c => ?_)
  · walk_at "rd"
    have hj : j < ns.length := by omega
    refine ix_L (i := j) (v := .int (ns.getD j 0)) hS (vI_at ?_) rfl k
    rw [List.getD_eq_getElem?_getD, List.getElem?_eq_getElem hj] <;> rfl
  · have e : ns.getD j 0 = 0 := by
      rw [List.getD_eq_getElem?_getD, List.getElem?_eq_none (by omega)] <;> rfl
    rw [e] at k
    exact k
def sp_L_whole (K : PySem.W.Frag) (g : Gd) : Sp := fun vs H Q _ => ∃ i : Int, vs = [.int i] ∧ Q (.bl true) H
theorem len_L_whole (K : PySem.W.Frag) (g : Gd) (vs : List V) (H : Hp) (Q : VK) (E : XK) (h : sp_L_whole K g vs H Q E) : vs.length = 1 := by obtain ⟨_, rfl, _⟩ := h; rfl
abbrev N_L_whole : List Str := ["found"]
/-- _law_whole -/
def t_L_whole (K : PySem.W.Frag) (g : Gd) (E : XK) : TS :=
  (tRet (tAndV (tCB (rIsi K) (tCons (tVar 0) (tCons (tC (.ty "int")) tNil))) (tNotV (tCB (rIsi K) (tCons (tVar 0) (tCons (tC (.ty "bool")) tNil))))))
theorem pure_L_whole {K : PySem.W.Frag} {g : Gd} (vs : List V) (H : Hp) (Q : VK) (E : XK) (h : sp_L_whole K g vs H Q E) : Rd1 (t_L_whole K g E) N_L_whole vs H Q := by
  obtain ⟨i, rfl, k⟩ := h
  refine ⟨_, rfl, _, _, .type "int", _, true, rfl, .ty "int", .base (.int i), kit_ty (by decide +kernel), true, rfl, iteT ?_⟩
  exact ⟨_, rfl, _, _, .type "int", _, false, rfl, .ty "bool", .base (.int i), kit_ty (by decide +kernel), _, rfl, k⟩
theorem joined_core {K : PySem.W.Frag} {p q : Addr} {a b : List Nat} {H : Hp} {Q : VK} {nx : L2.St → Hp → Prop} (hp : SqT K H p (vN a)) (hq : SqT K H q (vN b)) (hl : a.length ≤ 1000) (hlt : ∀ x ∈ a, x < b.length) (k : NewT H (jn a b) Q) :
    (tRet (tCB (rTupOf K) (tCons (tLc (iTup K (tVar 0)) (gName 2) tYes (tOp (rIxT K) (tVar 1) (tVar 2)) [2]) tNil))) { nx := nx, rt := Q } (start ["a", "b", "k"] [.ref p, .ref q]) H := by
  refine ⟨_, rfl, p, rfl, ⟨_, hp⟩, fun D hD => lc_tup (K := K) (a := p) (xs := vN a) (fun i H' => Same H H' ∧ H' D = some (.lst (vN (jn (a.take i) b)))) ⟨(Same.refl H).new hD, upd_same⟩ (fun i H' _ s => s.1.tup hp) ?_ ?_⟩
  · rintro i x H' hi ⟨s, hD'⟩
    obtain ⟨n, hn, rfl⟩ := vN_get hi
    have hnb : n < b.length := hlt n (List.mem_of_getElem? hn)
    refine ⟨rfl, ?_⟩
    walk_at "rd"
    refine ix_TN (i := n) (s.tup hq) hnb rfl ?_
    refine ⟨_, hD', ?_, s.up hD, ?_⟩
    · rw [vN_len, jn_len, List.length_take]; exact zlt (by omega)
    · rw [upd_same, vN_app, take_more hn]
      show _ = some (HO.lst (vN ((a.take i ++ [n]).map fun k => b.getD k 0)))
      rw [List.map_append] <;> rfl
  · rintro H' ⟨s, hD'⟩
    rw [vN_len, List.take_length] at hD'
    refine tup_L (sqL hD') fun r hr => k r _ (s.new hr) (s.free hr) upd_same
def sp_L_joined (K : PySem.W.Frag) (g : Gd) : Sp := fun vs H Q _ => ∃ (p q : Addr) (a b : List Nat), vs = [.ref p, .ref q] ∧ SqT K H p (vN a) ∧ SqT K H q (vN b) ∧ a.length ≤ 1000 ∧ (∀ x ∈ a, x < b.length) ∧ NewT H (jn a b) Q
theorem len_L_joined (K : PySem.W.Frag) (g : Gd) (vs : List V) (H : Hp) (Q : VK) (E : XK) (h : sp_L_joined K g vs H Q E) : vs.length = 2 := by obtain ⟨_, _, _, _, rfl, _⟩ := h; rfl
abbrev N_L_joined : List Str := ["a", "b", "k"]
/-- _law_joined -/
def t_L_joined (K : PySem.W.Frag) (g : Gd) (E : XK) : TS :=
  (tRet (tCB (rTupOf K) (tCons (tLc (iTup K (tVar 0)) (gName 2) tYes (tOp (rIxT K) (tVar 1) (tVar 2)) [2]) tNil)))
theorem pure_L_joined {K : PySem.W.Frag} {g : Gd} (vs : List V) (H : Hp) (Q : VK) (E : XK) (h : sp_L_joined K g vs H Q E) : Rd1 (t_L_joined K g E) N_L_joined vs H Q := by
  obtain ⟨p, q, a, b, rfl, hp, hq, hl, hlt, k⟩ := h
  exact joined_core hp hq hl hlt k
def sp_joined (K : PySem.W.Frag) (g : Gd) : Sp := fun vs H Q _ => ∃ (p q : Addr) (a b : List Nat), vs = [.ref p, .ref q] ∧ SqT K H p (vN a) ∧ SqT K H q (vN b) ∧ a.length ≤ 1000 ∧ (∀ x ∈ a, x < b.length) ∧ NewT H (jn a b) Q
theorem len_joined (K : PySem.W.Frag) (g : Gd) (vs : List V) (H : Hp) (Q : VK) (E : XK) (h : sp_joined K g vs H Q E) : vs.length = 2 := by obtain ⟨_, _, _, _, rfl, _⟩ := h; rfl
abbrev N_joined : List Str := ["a", "b", "k"]
/-- joined -/
def t_joined (K : PySem.W.Frag) (g : Gd) (E : XK) : TS :=
  (tRet (tCB (rTupOf K) (tCons (tLc (iTup K (tVar 0)) (gName 2) tYes (tOp (rIxT K) (tVar 1) (tVar 2)) [2]) tNil)))
theorem pure_joined {K : PySem.W.Frag} {g : Gd} (vs : List V) (H : Hp) (Q : VK) (E : XK) (h : sp_joined K g vs H Q E) : Rd1 (t_joined K g E) N_joined vs H Q := by
  obtain ⟨p, q, a, b, rfl, hp, hq, hl, hlt, k⟩ := h
  exact joined_core hp hq hl hlt k
def sp_is_seating (K : PySem.W.Frag) (g : Gd) : Sp := fun vs H Q _ => ∃ (p : Addr) (a : List Int), vs = [.ref p] ∧ SqT K H p (vI a) ∧ a.length ≤ 1000 ∧ Q (.bl (SeatB a)) H
theorem len_is_seating (K : PySem.W.Frag) (g : Gd) (vs : List V) (H : Hp) (Q : VK) (E : XK) (h : sp_is_seating K g vs H Q E) : vs.length = 1 := by obtain ⟨_, _, rfl, _⟩ := h; rfl
abbrev N_is_seating : List Str := ["row", "k"]
/-- is_seating -/
def t_is_seating (K : PySem.W.Frag) (g : Gd) (E : XK) : TS :=
  (tSeq (tIfS (tOr (tTest (tOp rLtI (tCB (rLenQ K) (tCons (tVar 0) tNil)) (tC (.int 1)))) (tTest (tOp rGtI (tCB (rLenQ K) (tCons (tVar 0) tNil)) (tC (.int 16))))) (tRet (tC (.bl false))) tNext)
    (tSeq (tFor (iRng1 (tCons (tCB (rLenQ K) (tCons (tVar 0) tNil)) tNil)) (gName 1) (tIfS (tTest (tOp (rIn K true) (tVar 1) (tVar 0))) (tRet (tC (.bl false))) tNext))
    (tRet (tC (.bl true)))))
theorem seatB_no {a : List Int} (h : ¬ (1 ≤ a.length ∧ a.length ≤ 16)) : SeatB a = false := by
  unfold SeatB
  by_cases h1 : 1 ≤ a.length
  · rw [decide_eq_true h1, decide_eq_false (fun z => h ⟨h1, z⟩)] <;> rfl
  · rw [decide_eq_false h1] <;> rfl
theorem seatB_no' {a : List Int} {k : Nat} (hk : k < a.length) (h : ¬ (k : Int) ∈ a) : SeatB a = false := by
  unfold SeatB
  have : ((List.range a.length).all fun k => decide ((k : Int) ∈ a)) = false := by
    refine Bool.eq_false_iff.mpr fun z => h ?_
    exact of_decide_eq_true (List.all_eq_true.mp z k (List.mem_range.mpr hk))
  rw [this, Bool.and_false]
theorem seatB_yes {a : List Int} (h1 : 1 ≤ a.length) (h2 : a.length ≤ 16) (h : ∀ k, k < a.length → (k : Int) ∈ a) : SeatB a = true := by
  unfold SeatB
  rw [decide_eq_true h1, decide_eq_true h2]
  exact List.all_eq_true.mpr fun k hk => decide_eq_true (h k (List.mem_range.mp hk))
theorem pure_is_seating {K : PySem.W.Frag} {g : Gd} (vs : List V) (H : Hp) (Q : VK) (E : XK) (h : sp_is_seating K g vs H Q E) : Rd1 (t_is_seating K g E) N_is_seating vs H Q := by
  obtain ⟨p, a, rfl, h, hl, k⟩ := h
  unfold t_is_seating
  walk_at "rd"
  refine len_TI h ?_
  walk_at "rd"
  refine if_d (fun c => ?_) (fun c => ?_)
  · walk_at "rd"
    rw [seatB_no (by omega)] at k
    exact k
  walk_at "rd"
  refine len_TI h ?_
  walk_at "rd"
  refine if_d (fun c2 => ?_) (fun c2 => ?_)
  · walk_at "rd"
    rw [seatB_no (by omega)] at k
    exact k
  walk_at "rd"
  refine len_TI h ?_
  walk_at "rd"
  refine w_for1 (by omega) (fun i σ H' => (∃ v, σ = [some (.ref p), v]) ∧ H' = H ∧ ∀ j, j < i → (j : Int) ∈ a) ⟨⟨_, rfl⟩, rfl, fun j hj => absurd hj (Nat.not_lt_zero j)⟩ ?_ ?_
  · rintro i σ H' hi ⟨⟨v, rfl⟩, rfl, hall⟩
    walk_at "rd"
    refine notin_TI h ?_
    walk_at "rd"
    refine if_nd (fun m => ?_) (fun m => ?_)
    · walk_at "rd"
      rw [seatB_no' hi m] at k
      exact k
    · walk_at "rd"
      refine ⟨⟨_, rfl⟩, rfl, fun j hj => ?_⟩
      by_cases e : j = i
      · rw [e]; exact m
      · exact hall j (by omega)
  · rintro σ H' ⟨⟨v, rfl⟩, rfl, hall⟩
    walk_at "rd"
    rw [seatB_yes (by omega) (by omega) hall] at k
    exact k
def sp_ask_seating (K : PySem.W.Frag) (g : Gd) : Sp := fun vs H Q E => ∃ (p : Addr) (a : List Int), vs = [.ref p] ∧ SqT K H p (vI a) ∧ a.length ≤ 1000 ∧ (SeatB a = true → Q .non H) ∧ (SeatB a = false → E (.ref g.NoSeating) none H)
theorem len_ask_seating (K : PySem.W.Frag) (g : Gd) (vs : List V) (H : Hp) (Q : VK) (E : XK) (h : sp_ask_seating K g vs H Q E) : vs.length = 1 := by obtain ⟨_, _, rfl, _⟩ := h; rfl
abbrev N_ask_seating : List Str := ["a"]
/-- ask_seating -/
def t_ask_seating (K : PySem.W.Frag) (g : Gd) (E : XK) : TS :=
  (tIfS (tNot (tB (tCallS (sp_is_seating K g) (fun _ => E0) (tCons (tVar 0) tNil)))) (tRaiseW (wE E) g.NoSeating) tNext)
theorem pure_ask_seating {K : PySem.W.Frag} {g : Gd} (vs : List V) (H : Hp) (Q : VK) (E : XK) (h : sp_ask_seating K g vs H Q E) : Rd1 (t_ask_seating K g E) N_ask_seating vs H Q := by
  obtain ⟨p, a, rfl, h, hl, k, e⟩ := h
  unfold t_ask_seating
  walk_at "rd"
  refine ⟨p, a, rfl, h, hl, ?_⟩
  walk_at "rd"
  refine if_nb (fun c => e c) (fun c => k c)
def sp_ask_size (K : PySem.W.Frag) (g : Gd) : Sp := fun vs H Q E => ∃ n : Int, vs = [.int n] ∧ (1 ≤ n ∧ n ≤ 16 → Q .non H) ∧ (¬ (1 ≤ n ∧ n ≤ 16) → E (.ref g.NoSize) none H)
theorem len_ask_size (K : PySem.W.Frag) (g : Gd) (vs : List V) (H : Hp) (Q : VK) (E : XK) (h : sp_ask_size K g vs H Q E) : vs.length = 1 := by obtain ⟨_, rfl, _⟩ := h; rfl
abbrev N_ask_size : List Str := ["size"]
/-- ask_size -/
def t_ask_size (K : PySem.W.Frag) (g : Gd) (E : XK) : TS :=
  (tIfS (tOr (tTest (tOp rLtI (tVar 0) (tC (.int 1)))) (tTest (tOp rGtI (tVar 0) (tC (.int 16))))) (tRaiseW (wE E) g.NoSize) tNext)
theorem pure_ask_size {K : PySem.W.Frag} {g : Gd} (vs : List V) (H : Hp) (Q : VK) (E : XK) (h : sp_ask_size K g vs H Q E) : Rd1 (t_ask_size K g E) N_ask_size vs H Q := by
  obtain ⟨n, rfl, k, e⟩ := h
  unfold t_ask_size
  walk_at "rd"
  refine if_d (fun c => ?_) (fun c => ?_)
  · walk_at "rd"
    exact e (by omega)
  walk_at "rd"
  refine if_d (fun c2 => ?_) (fun c2 => ?_)
  · exact e (by omega)
  · exact k (by omega)
def sp_rest (K : PySem.W.Frag) (g : Gd) : Sp := fun vs H Q E => ∃ n : Int, vs = [.int n] ∧ (1 ≤ n ∧ n ≤ 16 → NewT H (List.range n.toNat) Q) ∧ (¬ (1 ≤ n ∧ n ≤ 16) → E (.ref g.NoSize) none H)
theorem len_rest (K : PySem.W.Frag) (g : Gd) (vs : List V) (H : Hp) (Q : VK) (E : XK) (h : sp_rest K g vs H Q E) : vs.length = 1 := by obtain ⟨_, rfl, _⟩ := h; rfl
abbrev N_rest : List Str := ["size"]
/-- rest -/
def t_rest (K : PySem.W.Frag) (g : Gd) (E : XK) : TS :=
  (tSeq (tDrop (tCallS (sp_ask_size K g) (WE (wE E)) (tCons (tVar 0) tNil)))
    (tRet (tTupRg (tRg1 (tVar 0)))))
theorem pure_rest {K : PySem.W.Frag} {g : Gd} (vs : List V) (H : Hp) (Q : VK) (E : XK) (h : sp_rest K g vs H Q E) : Rd1 (t_rest K g E) N_rest vs H Q := by
  obtain ⟨n, rfl, k, e⟩ := h
  unfold t_rest
  walk_at "rd"
  refine ⟨n, rfl, fun c => ?_, e⟩
  obtain ⟨m, rfl⟩ : ∃ m : Nat, n = (m : Int) := ⟨n.toNat, by omega⟩
  walk_at "rd"
  refine ⟨rgOk_N (by omega), fun r hr => ?_⟩
  exact k c r _ ((Same.refl H).new hr) hr (by rw [upd_same, rgV_N] <;> rfl)
theorem turned_core {K : PySem.W.Frag} {p : Addr} {n : Nat} {a : List Nat} {H : Hp} {Q : VK} {nx : L2.St → Hp → Prop} (hp : SqT K H p (vN a)) (ha : IsP n a) (hn : n ≤ 1000) (k : NewT H (trn a) Q) :
    (tSeq (tAsg (tOp rRep (tLst (tCons (tC (.int 0)) tNil)) (tCB (rLenQ K) (tCons (tVar 0) tNil))) (gName 1))
    (tSeq (tFor (iRng1 (tCons (tCB (rLenQ K) (tCons (tVar 0) tNil)) tNil)) (gName 2) (tAsg (tVar 2) (gSub (tVar 1) (tOp (rIxT K) (tVar 0) (tVar 2)) rSetL)))
    (tRet (tCB (rTupOf K) (tCons (tVar 1) tNil))))) { nx := nx, rt := Q } (start ["a", "row", "k"] [.ref p]) H := by
  have hlen := ha.len
  walk_at "rd"
  refine ⟨zl (by show 1 ≤ 100000; decide), fun z hz => ?_⟩
  walk_at "rd"
  have s1 : Same H (upd H z (.lst [V.int 0])) := (Same.refl H).new hz
  refine len_TN (s1.tup hp) ?_
  refine rep_0 (by omega) upd_same fun l hl => ?_
  have s2 := s1.new (o := .lst (vN (List.replicate a.length 0))) hl
  have hl0 : H l = none := s1.free hl
  walk_at "rd"
  refine len_TN (s2.tup hp) ?_
  walk_at "rd"
  refine w_for1 (by omega) (fun i σ H' => (∃ v, σ = [some (.ref p), some (.ref l), v]) ∧ Same H H' ∧ H' l = some (.lst (vN (trnSt a i)))) ⟨⟨_, rfl⟩, s2, upd_same⟩ ?_ ?_
  · rintro i σ H' hi ⟨⟨v, rfl⟩, s, hL⟩
    walk_at "rd"
    refine ix_TN (i := i) (s.tup hp) hi rfl ?_
    refine set_N (i := a.getD i 0) (n := i) hL (by rw [trnSt_len, ha.len]; exact ha.getD_lt (by omega)) rfl ?_
    exact ⟨⟨_, rfl⟩, s.up hl0, by rw [upd_same, trnSt_succ]⟩
  · rintro σ H' ⟨⟨v, rfl⟩, s, hL⟩
    walk_at "rd"
    exact tup_L (sqL hL) fun r hr => k r _ (s.new hr) (s.free hr) upd_same
def sp_turned (K : PySem.W.Frag) (g : Gd) : Sp := fun vs H Q _ => ∃ (p : Addr) (n : Nat) (a : List Nat), vs = [.ref p] ∧ SqT K H p (vN a) ∧ IsP n a ∧ n ≤ 1000 ∧ NewT H (trn a) Q
theorem len_turned (K : PySem.W.Frag) (g : Gd) (vs : List V) (H : Hp) (Q : VK) (E : XK) (h : sp_turned K g vs H Q E) : vs.length = 1 := by obtain ⟨_, _, _, rfl, _⟩ := h; rfl
abbrev N_turned : List Str := ["a", "row", "k"]
/-- turned -/
def t_turned (K : PySem.W.Frag) (g : Gd) (E : XK) : TS :=
  (tSeq (tAsg (tOp rRep (tLst (tCons (tC (.int 0)) tNil)) (tCB (rLenQ K) (tCons (tVar 0) tNil))) (gName 1))
    (tSeq (tFor (iRng1 (tCons (tCB (rLenQ K) (tCons (tVar 0) tNil)) tNil)) (gName 2) (tAsg (tVar 2) (gSub (tVar 1) (tOp (rIxT K) (tVar 0) (tVar 2)) rSetL)))
    (tRet (tCB (rTupOf K) (tCons (tVar 1) tNil)))))
theorem pure_turned {K : PySem.W.Frag} {g : Gd} (vs : List V) (H : Hp) (Q : VK) (E : XK) (h : sp_turned K g vs H Q E) : Rd1 (t_turned K g E) N_turned vs H Q := by
  obtain ⟨p, n, a, rfl, hp, ha, hn, k⟩ := h
  exact turned_core hp ha hn k
theorem erase_perm {α : Type} : ∀ {l : List α} {i : Nat} (h : i < l.length), (l[i] :: l.eraseIdx i).Perm l
  | [], _, h => absurd h (Nat.not_lt_zero _)
  | _ :: _, 0, _ => List.Perm.refl _
  | a :: l, i + 1, h => by
    have h' : i < l.length := Nat.lt_of_succ_lt_succ h
    have ih := erase_perm (l := l) (i := i) h'
    show (l[i] :: a :: l.eraseIdx i).Perm (a :: l)
    exact (List.Perm.swap a l[i] _).trans (List.Perm.cons a ih)
/-- drawing: the i-th of what is left, put behind what is drawn -/
theorem draw_perm {left row : List Nat} {i : Nat} (h : i < left.length) : ((row ++ [left.getD i 0]) ++ left.eraseIdx i).Perm (row ++ left) := by
  rw [List.append_assoc]
  refine List.Perm.append_left row ?_
  have e : left.getD i 0 = left[i] := by rw [List.getD_eq_getElem?_getD, List.getElem?_eq_getElem h] <;> rfl
  rw [e]
  exact erase_perm h
def drawStep (n : Nat) (f : Int → Int) (d : Int → Int → Int) (s : Int × List Nat × List Nat) (k : Nat) : Int × List Nat × List Nat :=
  let c := f s.1
  let m : Int := (n : Int) - (k : Int)
  (d c m, s.2.1.eraseIdx (c % m).toNat, s.2.2 ++ [s.2.1.getD (c % m).toNat 0])
def drawSt (n : Nat) (f : Int → Int) (d : Int → Int → Int) (c : Int) (k : Nat) : Int × List Nat × List Nat := (List.range k).foldl (drawStep n f d) (c, List.range n, [])
theorem drawSt_succ (n : Nat) (f : Int → Int) (d : Int → Int → Int) (c : Int) (k : Nat) : drawSt n f d c (k + 1) = drawStep n f d (drawSt n f d c k) k := by
  unfold drawSt
  rw [List.range_succ, List.foldl_append] <;> rfl
theorem drawSt_ok (n : Nat) (f : Int → Int) (d : Int → Int → Int) (c : Int) : ∀ k, k ≤ n → (drawSt n f d c k).2.1.length = n - k ∧ (drawSt n f d c k).2.2.length = k ∧ ((drawSt n f d c k).2.2 ++ (drawSt n f d c k).2.1).Perm (List.range n)
  | 0, _ => ⟨List.length_range, rfl, List.Perm.refl _⟩
  | k + 1, hk => by
    obtain ⟨h1, h2, h3⟩ := drawSt_ok n f d c k (by omega)
    rw [drawSt_succ]
    have hm : (0 : Int) < (n : Int) - (k : Int) := by omega
    have hi : ((f (drawSt n f d c k).1) % ((n : Int) - (k : Int))).toNat < (drawSt n f d c k).2.1.length := by
      have a := Int.emod_nonneg (f (drawSt n f d c k).1) (Int.ne_of_gt hm)
      have b := Int.emod_lt_of_pos (f (drawSt n f d c k).1) hm
      omega
    refine ⟨?_, ?_, (draw_perm hi).trans h3⟩
    · show (List.eraseIdx _ _).length = _
      rw [List.length_eraseIdx_of_lt hi, h1]; omega
    · show (_ ++ [_]).length = _
      rw [List.length_append, h2]; rfl
theorem drawSt_perm (n : Nat) (f : Int → Int) (d : Int → Int → Int) (c : Int) : IsP n (drawSt n f d c n).2.2 := by
  obtain ⟨h1, h2, h3⟩ := drawSt_ok n f d c n (Nat.le_refl n)
  have e : (drawSt n f d c n).2.1 = [] := List.length_eq_zero_iff.mp (by omega)
  rw [e, List.append_nil] at h3
  exact h3
/-- any seating of n by a cell -/
def seatN (c : Int) (n : Nat) : List Nat := (drawSt n (fun c => c) (fun c m => c / m) c n).2.2
/-- .. by a cell mixed -/
def farN (c : Int) (n : Nat) : List Nat := (drawSt n (fun c => (c * 48271 + 11) % 2147483647) (fun c _ => c) c n).2.2
theorem isP_seat (c : Int) (n : Nat) : IsP n (seatN c n) := drawSt_perm _ _ _ _
theorem isP_far (c : Int) (n : Nat) : IsP n (farN c n) := drawSt_perm _ _ _ _
def sp_L_seating (K : PySem.W.Frag) (g : Gd) : Sp := fun vs H Q _ => ∃ (c : Int) (n : Nat), vs = [.int c, .int (n : Int)] ∧ n ≤ 1000 ∧ NewT H (seatN c n) Q
theorem len_L_seating (K : PySem.W.Frag) (g : Gd) (vs : List V) (H : Hp) (Q : VK) (E : XK) (h : sp_L_seating K g vs H Q E) : vs.length = 2 := by obtain ⟨_, _, rfl, _⟩ := h; rfl
abbrev N_L_seating : List Str := ["cell", "size", "left", "row", "k"]
/-- _law_seating -/
def t_L_seating (K : PySem.W.Frag) (g : Gd) (E : XK) : TS :=
  (tSeq (tAsg (tLstRg (tRg1 (tVar 1))) (gName 2))
    (tSeq (tAsg (tLst tNil) (gName 3))
    (tSeq (tFor (iRng1 (tCons (tVar 1) tNil)) (gName 4) (tSeq (tDrop (tBM K "list" rAppend (tVar 3) (tCons (tBM K "list" rPopAt (tVar 2) (tCons (tOp rModI (tVar 0) (tOp rSubI (tVar 1) (tVar 4))) tNil)) tNil)))
    (tAsg (tOp rDivI (tVar 0) (tOp rSubI (tVar 1) (tVar 4))) (gName 0))))
    (tRet (tCB (rTupOf K) (tCons (tVar 3) tNil))))))
theorem pure_L_seating {K : PySem.W.Frag} {g : Gd} (vs : List V) (H : Hp) (Q : VK) (E : XK) (h : sp_L_seating K g vs H Q E) : Rd1 (t_L_seating K g E) N_L_seating vs H Q := by
  obtain ⟨c, n, rfl, hn, k⟩ := h
  unfold t_L_seating
  walk_at "rd"
  refine ⟨rgOk_N (by omega), fun l hl => ?_⟩
  rw [rgV_N]
  have s1 : Same H (upd H l (.lst (vN (List.range n)))) := (Same.refl H).new hl
  walk_at "rd"
  refine ⟨zl (Nat.zero_le _), fun r hr => ?_⟩
  have hr0 := s1.free hr
  have s2 := s1.new (o := .lst []) hr
  have hlr : l ≠ r := ne_of_none upd_same hr
  walk_at "rd"
  refine w_for1 (by omega) (fun i σ H' => (∃ v, σ = [some (.int (drawSt n (fun c => c) (fun c m => c / m) c i).1), some (.int (n : Int)), some (.ref l), some (.ref r), v]) ∧ Same H H' ∧
    H' l = some (.lst (vN (drawSt n (fun c => c) (fun c m => c / m) c i).2.1)) ∧ H' r = some (.lst (vN (drawSt n (fun c => c) (fun c m => c / m) c i).2.2))) ⟨⟨_, rfl⟩, s2, by rw [upd_ne hlr, upd_same] <;> rfl, upd_same⟩ ?_ ?_
  · rintro i σ H' hi ⟨⟨v, rfl⟩, s, hL, hR⟩
    have ok := drawSt_ok n (fun c => c) (fun c m => c / m) c i (by omega)
    have hst := drawSt_succ n (fun c => c) (fun c m => c / m) c i
    generalize drawSt n (fun c => c) (fun c m => c / m) c i = st at ok hst hL hR ⊢
    obtain ⟨c1, left, row⟩ := st
    obtain ⟨o1, o2, _⟩ := ok
    dsimp only at o1 o2 hL hR ⊢
    rw [hst]
    have hm : (0 : Int) < (n : Int) - (i : Int) := by omega
    have b1 := Int.emod_nonneg c1 (Int.ne_of_gt hm)
    have b2 := Int.emod_lt_of_pos c1 hm
    walk_at "rd"
    refine ⟨isL (sqL hR), ?_⟩
    walk_at "rd"
    refine ⟨isL (sqL hL), ?_⟩
    walk_at "rd"
    refine mod_I hm ?_
    walk_at "rd"
    refine pop_N (i := (c1 % ((n : Int) - (i : Int))).toNat) hL (by omega) (by omega) (by omega) ?_
    walk_at "rd"
    refine app_N (a := row) (by rw [upd_ne hlr.symm]; exact hR) (by omega) ?_
    walk_at "rd"
    refine div_I hm (by omega) ?_
    refine ⟨⟨_, rfl⟩, (s.up hl).up hr0, ?_, upd_same⟩
    rw [upd_ne hlr, upd_same] <;> rfl
  · rintro σ H' ⟨⟨v, rfl⟩, s, hL, hR⟩
    walk_at "rd"
    exact tup_L (sqL hR) fun q hq => k q _ (s.new hq) (s.free hq) upd_same
end Shf

/-! laws k03, k04: what is refused -/
namespace Shf
open PySem L2
section
variable {K : PySem.W.Frag} {H : Hp} {Q : VK} {p q : Addr}
theorem is_E {D C a : Addr} {b : Bool} (x : ExcC K D) (h : PySem.W.kitOne K (.ref D) (.ref C) = some b) (k : Q (.bl b) H) : rIsE2 K (.ref D) none a [.ref a, .ref C] H Q := ⟨D, rfl, rfl, x, .ref C, .ref C, b, rfl, fun _ r => r, h, k⟩
theorem is_ET {D a : Addr} {T : String} {b : Bool} (x : ExcC K D) (h : PySem.W.kitOne K (.ref D) (.type T) = some b) (k : Q (.bl b) H) : rIsE2 K (.ref D) none a [.ref a, .ty T] H Q := ⟨D, rfl, rfl, x, .ty T, .type T, b, rfl, fun _ r => r, h, k⟩
abbrev vB (a : List Bool) : List V := a.map V.bl
def dB (a : List Bool) : PyData := .tuple (a.map PyData.bool)
theorem dpAll_B : ∀ (a : List Bool), DpAll K H (vB a) (a.map PyData.bool)
  | [] => .nil
  | x :: r => .cons (.bl x) (dpAll_B r)
theorem eqv_bool (x y : Bool) : PyData.eqv (.bool x) (.bool y) = decide (x = y) := by
  unfold PyData.eqv
  cases x <;> cases y <;> rfl
theorem eqv_B (a b : List Bool) : PyData.eqv (dB a) (dB b) = decide (a = b) := by
  unfold dB PyData.eqv
  exact eqvAll_map eqv_bool a b
theorem shp_B (a : List Bool) : SeqAt.shaped (dB a) = true := by
  refine shp ?_ ?_
  · unfold dB PyData.canLay0
    exact canAll_map (fun x => by simp [PyData.canLay0]) a
  · unfold dB PyData.depth
    have := depthAll_map (f := PyData.bool) (n := 0) (fun x => by simp [PyData.depth]) a
    omega
theorem eq_TB {a b : List Bool} (ha : SqT K H p (vB a)) (hb : SqT K H q (vB b)) (k : Q (.bl (decide (a = b))) H) : rEqD K (.ref p) (.ref q) H Q := ⟨dB a, dB b, .tup ha (dpAll_B a), .tup hb (dpAll_B b), shp_B a, shp_B b, by rw [eqv_B]; exact k⟩
theorem ne_TB {a b : List Bool} (ha : SqT K H p (vB a)) (hb : SqT K H q (vB b)) (k : Q (.bl (!decide (a = b))) H) : rNeD K (.ref p) (.ref q) H Q := ⟨dB a, dB b, .tup ha (dpAll_B a), .tup hb (dpAll_B b), shp_B a, shp_B b, by rw [eqv_B]; exact k⟩
end
end Shf

/-! rings of a seating: mathematics, rings, even; the laws' rings -/
namespace Shf
open PySem L2
/-! ### steps of a seating from a seat -/
def itr (a : List Nat) : Nat → Nat → Nat
  | 0, x => x
  | j + 1, x => a.getD (itr a j x) 0
section
variable {n : Nat} {a : List Nat}
theorem itr_lt (h : IsP n a) {x : Nat} (hx : x < n) : ∀ j, itr a j x < n
  | 0 => hx
  | j + 1 => h.getD_lt (itr_lt h hx j)
theorem itr_add (a : List Nat) (x : Nat) (j : Nat) : ∀ i, itr a (i + j) x = itr a i (itr a j x)
  | 0 => by rw [Nat.zero_add] <;> rfl
  | i + 1 => by
    rw [Nat.add_right_comm]
    show a.getD (itr a (i + j) x) 0 = a.getD (itr a i (itr a j x)) 0
    rw [itr_add a x j i]
theorem itr_inj (h : IsP n a) {x y : Nat} (hx : x < n) (hy : y < n) : ∀ j, itr a j x = itr a j y → x = y
  | 0, e => e
  | j + 1, e => by
    refine itr_inj h hx hy j ?_
    exact nd_getD h.nd (by rw [h.len]; exact itr_lt h hx j) (by rw [h.len]; exact itr_lt h hy j) e
theorem itr_back (h : IsP n a) {k : Nat} (hk : k < n) {i j : Nat} (hij : i ≤ j) (e : itr a i k = itr a j k) : itr a (j - i) k = k := by
  have e1 : itr a j k = itr a i (itr a (j - i) k) := by
    rw [← itr_add, Nat.add_comm, Nat.sub_add_cancel hij]
  rw [e1] at e
  exact (itr_inj h hk (itr_lt h hk _) i e).symm
theorem itr_ret (h : IsP n a) {k : Nat} (hk : k < n) : ∃ p, 1 ≤ p ∧ p ≤ n ∧ itr a p k = k := by
  refine Classical.byContradiction fun no => ?_
  have nd : ((List.range (n + 1)).map fun j => itr a j k).Nodup := by
    refine nd_of_getD fun i j hi hj e => ?_
    rw [List.length_map, List.length_range] at hi hj
    have g : ∀ i, i < n + 1 → ((List.range (n + 1)).map fun j => itr a j k).getD i 0 = itr a i k := fun i hi => by
      rw [List.getD_eq_getElem?_getD, List.getElem?_map, List.getElem?_range hi] <;> rfl
    rw [g i hi, g j hj] at e
    refine Decidable.byContradiction fun ne => ?_
    rcases Nat.lt_or_gt_of_ne ne with l | l
    · exact no ⟨j - i, by omega, by omega, itr_back h hk (Nat.le_of_lt l) e⟩
    · exact no ⟨i - j, by omega, by omega, itr_back h hk (Nat.le_of_lt l) e.symm⟩
  have hl := nd_sub_len (m := List.range n) nd fun x hx => by
    obtain ⟨j, _, rfl⟩ := List.mem_map.mp hx
    exact List.mem_range.mpr (itr_lt h hk j)
  rw [List.length_map, List.length_range, List.length_range] at hl
  omega
/-- the least number of steps, from j on, that comes back to k -/
def perF (a : List Nat) (k : Nat) : Nat → Nat → Nat
  | 0, j => j
  | f + 1, j => if itr a j k = k then j else perF a k f (j + 1)
theorem perF_spec (a : List Nat) (k : Nat) : ∀ f j p, j ≤ p → p ≤ j + f → itr a p k = k → itr a (perF a k f j) k = k ∧ j ≤ perF a k f j ∧ (∀ q, j ≤ q → q < perF a k f j → itr a q k ≠ k) ∧ perF a k f j ≤ p
  | 0, j, p, h1, h2, e => by
    have : p = j := by omega
    subst this
    exact ⟨e, Nat.le_refl _, fun q a b => absurd b (Nat.not_lt.mpr a), Nat.le_refl _⟩
  | f + 1, j, p, h1, h2, e => by
    unfold perF
    by_cases c : itr a j k = k
    · rw [if_pos c]
      exact ⟨c, Nat.le_refl _, fun q a b => absurd b (Nat.not_lt.mpr a), h1⟩
    · rw [if_neg c]
      have hne : p ≠ j := fun z => c (z ▸ e)
      obtain ⟨g1, g2, g3, g4⟩ := perF_spec a k f (j + 1) p (by omega) (by omega) e
      refine ⟨g1, by omega, fun q hq hl => ?_, g4⟩
      by_cases z : q = j
      · rw [z]; exact c
      · exact g3 q (by omega) hl
def per (a : List Nat) (k : Nat) : Nat := perF a k a.length 1
theorem per_spec (h : IsP n a) {k : Nat} (hk : k < n) : itr a (per a k) k = k ∧ 1 ≤ per a k ∧ (∀ q, 1 ≤ q → q < per a k → itr a q k ≠ k) ∧ per a k ≤ n := by
  obtain ⟨p, h1, h2, e⟩ := itr_ret h hk
  obtain ⟨g1, g2, g3, g4⟩ := perF_spec a k a.length 1 p h1 (by rw [h.len]; omega) e
  exact ⟨g1, g2, g3, Nat.le_trans g4 h2⟩
/-- the ring of a seat, from it on -/
def ring (a : List Nat) (k : Nat) : List Nat := (List.range (per a k)).map fun j => itr a j k
theorem ring_len (a : List Nat) (k : Nat) : (ring a k).length = per a k := by unfold ring; rw [List.length_map, List.length_range]
theorem itr_mul (h : IsP n a) {k : Nat} (hk : k < n) : ∀ m, itr a (m * per a k) k = k
  | 0 => by rw [Nat.zero_mul] <;> rfl
  | m + 1 => by rw [Nat.succ_mul, itr_add, (per_spec h hk).1, itr_mul h hk m]
theorem mem_ring (h : IsP n a) {k : Nat} (hk : k < n) (j : Nat) : itr a j k ∈ ring a k := by
  have hp := (per_spec h hk).2.1
  have e : itr a j k = itr a (j % per a k) k := by
    conv => lhs; rw [← Nat.div_add_mod j (per a k), Nat.add_comm, itr_add, Nat.mul_comm, itr_mul h hk]
  rw [e]
  exact List.mem_map.mpr ⟨j % per a k, List.mem_range.mpr (Nat.mod_lt _ hp), rfl⟩
theorem ring_mem {k x : Nat} (h : x ∈ ring a k) : ∃ j, j < per a k ∧ itr a j k = x := by
  obtain ⟨j, hj, e⟩ := List.mem_map.mp h
  exact ⟨j, List.mem_range.mp hj, e⟩
theorem ring_lt (h : IsP n a) {k x : Nat} (hk : k < n) (hx : x ∈ ring a k) : x < n := by
  obtain ⟨j, _, rfl⟩ := ring_mem hx
  exact itr_lt h hk j
theorem ring_self (h : IsP n a) {k : Nat} (hk : k < n) : k ∈ ring a k := mem_ring h hk 0
theorem ring_symm (h : IsP n a) {k x : Nat} (hk : k < n) (hx : x ∈ ring a k) : k ∈ ring a x := by
  obtain ⟨j, hj, rfl⟩ := ring_mem hx
  have e : itr a (per a k - j) (itr a j k) = k := by rw [← itr_add, Nat.sub_add_cancel (Nat.le_of_lt hj)]; exact (per_spec h hk).1
  have := mem_ring h (itr_lt h hk j) (per a k - j)
  rw [e] at this
  exact this
theorem ring_trans (h : IsP n a) {k x y : Nat} (hk : k < n) (hx : x ∈ ring a k) (hy : y ∈ ring a x) : y ∈ ring a k := by
  obtain ⟨j, _, rfl⟩ := ring_mem hx
  obtain ⟨i, _, rfl⟩ := ring_mem hy
  rw [← itr_add]
  exact mem_ring h hk _
theorem ring_nd (h : IsP n a) {k : Nat} (hk : k < n) : (ring a k).Nodup := by
  obtain ⟨_, h1, h2, _⟩ := per_spec h hk
  refine nd_of_getD fun i j hi hj e => ?_
  rw [ring_len] at hi hj
  have g : ∀ i, i < per a k → (ring a k).getD i 0 = itr a i k := fun i hi => by
    unfold ring
    rw [List.getD_eq_getElem?_getD, List.getElem?_map, List.getElem?_range hi] <;> rfl
  rw [g i hi, g j hj] at e
  refine Decidable.byContradiction fun ne => ?_
  rcases Nat.lt_or_gt_of_ne ne with l | l
  · exact h2 (j - i) (by omega) (by omega) (itr_back h hk (Nat.le_of_lt l) e)
  · exact h2 (i - j) (by omega) (by omega) (itr_back h hk (Nat.le_of_lt l) e.symm)
/-- k is the least of its ring -/
def isMin (a : List Nat) (k : Nat) : Bool := (ring a k).all fun x => decide (k ≤ x)
theorem isMin_iff {k : Nat} : isMin a k = true ↔ ∀ x ∈ ring a k, k ≤ x := by
  unfold isMin
  rw [List.all_eq_true]
  exact ⟨fun h x hx => of_decide_eq_true (h x hx), fun h x hx => decide_eq_true (h x hx)⟩
/-- a list of numbers has a least -/
theorem least_of : ∀ (l : List Nat), l ≠ [] → ∃ m ∈ l, ∀ x ∈ l, m ≤ x
  | [], h => absurd rfl h
  | [x], _ => ⟨x, List.mem_singleton.mpr rfl, fun y hy => by rw [List.mem_singleton.mp hy]; exact Nat.le_refl _⟩
  | x :: y :: r, _ => by
    obtain ⟨m, hm, hl⟩ := least_of (y :: r) (by simp)
    by_cases c : x ≤ m
    · exact ⟨x, List.mem_cons_self, fun z hz => by
        rcases List.mem_cons.mp hz with e | hz
        · rw [e]; exact Nat.le_refl _
        · exact Nat.le_trans c (hl z hz)⟩
    · exact ⟨m, List.mem_cons_of_mem _ hm, fun z hz => by
        rcases List.mem_cons.mp hz with e | hz
        · rw [e]; omega
        · exact hl z hz⟩
/-- some ring that starts below k holds k beyond its start: just where k is not the least of its own -/
def SeenP (a : List Nat) (k x : Nat) : Prop := ∃ q, q < k ∧ isMin a q = true ∧ x ∈ ring a q ∧ x ≠ q
theorem seen_iff (h : IsP n a) {k : Nat} (hk : k < n) : SeenP a k k ↔ isMin a k = false := by
  constructor
  · rintro ⟨q, hq, _, hx, _⟩
    refine Bool.eq_false_iff.mpr fun z => ?_
    have := isMin_iff.mp z q (ring_symm h (by omega) hx)
    omega
  · intro z
    obtain ⟨m, hm, hl⟩ := least_of (ring a k) (fun e => by have := ring_self h hk; rw [e] at this; cases this)
    have hmn := ring_lt h hk hm
    have hmk : m ≠ k := fun e => by
      have : isMin a k = true := isMin_iff.mpr (fun x hx => by rw [← e]; exact hl x hx)
      rw [this] at z; cases z
    have hle := hl k (ring_self h hk)
    refine ⟨m, by omega, isMin_iff.mpr fun x hx => hl x (ring_trans h hk hm hx), ring_symm h hk hm, fun e => hmk e.symm⟩
/-- the rings of two seats or more whose first seats lie below m -/
def ringsK (a : List Nat) (m : Nat) : List (List Nat) := ((List.range m).filter fun k => isMin a k && decide (1 < per a k)).map (ring a)
def ringsN (a : List Nat) : List (List Nat) := ringsK a a.length
theorem ringsK_succ (a : List Nat) (m : Nat) : ringsK a (m + 1) = ringsK a m ++ (if isMin a m && decide (1 < per a m) then [ring a m] else []) := by
  unfold ringsK
  rw [List.range_succ, List.filter_append, List.map_append]
  congr 1
  by_cases c : (isMin a m && decide (1 < per a m)) = true
  · rw [List.filter_cons, if_pos c, if_pos c] <;> rfl
  · rw [List.filter_cons, if_neg c, if_neg c] <;> rfl
theorem ringsK_len (a : List Nat) : ∀ m, (ringsK a m).length ≤ m
  | m => by
    unfold ringsK
    rw [List.length_map]
    have := List.length_filter_le (fun k => isMin a k && decide (1 < per a k)) (List.range m)
    rw [List.length_range] at this
    exact this
end
/-! ### a list of tuples of numbers -/
inductive LT (H : Hp) : List V → List (List Nat) → Prop
  | nil : LT H [] []
  | cons {p : Addr} {a : List Nat} {vs : List V} {as : List (List Nat)} : H p = some (.tup (vN a)) → LT H vs as → LT H (.ref p :: vs) (a :: as)
theorem LT.mono {H H' : Hp} (s : Same H H') {vs : List V} {as : List (List Nat)} (h : LT H vs as) : LT H' vs as := by
  induction h with
  | nil => exact .nil
  | cons h _ ih => exact .cons (s _ _ h) ih
theorem LT.snoc {H : Hp} {p : Addr} {a : List Nat} (hp : H p = some (.tup (vN a))) {vs : List V} {as : List (List Nat)} (h : LT H vs as) : LT H (vs ++ [.ref p]) (as ++ [a]) := by
  induction h with
  | nil => exact .cons hp .nil
  | cons h _ ih => exact .cons h ih
theorem LT.len {H : Hp} {vs : List V} {as : List (List Nat)} (h : LT H vs as) : vs.length = as.length := by
  induction h with
  | nil => rfl
  | cons _ _ ih => simp [ih]
theorem LT.get {H : Hp} {vs : List V} {as : List (List Nat)} (h : LT H vs as) : ∀ {i : Nat} {a : List Nat}, as[i]? = some a → ∃ p, vs[i]? = some (.ref p) ∧ H p = some (.tup (vN a)) := by
  induction h with
  | nil => intro i a e; simp at e
  | cons h _ ih =>
    intro i a e
    cases i with
    | zero => cases e; exact ⟨_, rfl, h⟩
    | succ i => exact ih (by simpa using e)
theorem LT.get' {H : Hp} {vs : List V} {as : List (List Nat)} (h : LT H vs as) : ∀ {i : Nat} {v : V}, vs[i]? = some v → ∃ p a, v = .ref p ∧ as[i]? = some a ∧ H p = some (.tup (vN a)) := by
  induction h with
  | nil => intro i a e; simp at e
  | cons h _ ih =>
    intro i a e
    cases i with
    | zero => cases e; exact ⟨_, _, rfl, rfl, h⟩
    | succ i => exact ih (by simpa using e)
theorem upd_list_same {H H' : Hp} {p : Addr} {o : HO} (s : Same H H') (h : H p = none) : Same H (upd H' p o) := s.up h
/-- what changes is no tuple: the tuples stand -/
theorem LT.upL {H : Hp} {l : Addr} {xs : List V} {o : HO} (hl : H l = some (.lst xs)) {vs : List V} {as : List (List Nat)} (h : LT H vs as) : LT (L2.upd H l o) vs as := by
  induction h with
  | nil => exact .nil
  | cons h _ ih => exact .cons (by rw [upd_ne (ne_of h hl (by intro z; cases z))]; exact h) ih
theorem LT.updD {H : Hp} {l : Addr} {xs : List (Key × V)} {o : HO} (hl : H l = some (.dK xs)) {vs : List V} {as : List (List Nat)} (h : LT H vs as) : LT (L2.upd H l o) vs as := by
  induction h with
  | nil => exact .nil
  | cons h _ ih => exact .cons (by rw [upd_ne (ne_of h hl (by intro z; cases z))]; exact h) ih
/-- a new list of tuples is handed back -/
def NewLT (H : Hp) (as : List (List Nat)) (Q : VK) : Prop := ∀ (r : Addr) (H' : Hp) (vs : List V), Same H H' → H r = none → H' r = some (.lst vs) → LT H' vs as → Q (.ref r) H'
theorem w_while {c : TT} {tb : TS} {D : Ends} {σ : L2.St} {H : Hp} (h : ∃ W : Nat → L2.St → Hp → Prop, (∃ m, W m σ H) ∧ ∀ m σ H, W m σ H →
  c σ H fun b H1 => if b = true then ∃ N : L2.St → Hp → Prop, (∀ σ' H', N σ' H' → ∃ m', m' < m ∧ W m' σ' H') ∧ tb { D with nx := N, ct := N, bk := D.nx } σ H1 else D.nx σ H1) : tWhile c tb D σ H := h
theorem w_dnew {σ : L2.St} {H : Hp} {Q : VK} (h : ∀ p, H p = none → Q (.ref p) (upd H p (.dK []))) : tDNewK σ H Q := h
theorem w_dput {td ty tv : TE} {D : Ends} {σ : L2.St} {H : Hp} (h : tv σ H fun v H1 => td σ H1 fun x H2 => ty σ H2 fun y H3 => ∃ a H4, x = .ref a ∧ DPut H3 a y v H4 ∧ D.nx σ H4) : sDPut td ty tv D σ H := h
theorem w_dnotin {td ty : TE} {σ : L2.St} {H : Hp} {Q : VK} (h : ty σ H fun y H1 => td σ H1 fun x H2 => ∃ a o, x = .ref a ∧ DGet H2 a y o ∧ Q (.bl (!o.isSome)) H2) : tDNotIn ty td σ H Q := h
/-- the keys of a dict of numbers -/
def DK (kvs : List (Key × V)) (S : Nat → Prop) : Prop := ∀ x : Nat, (valV kvs (Sum.inl (x : Int) : Key)).isSome = true ↔ S x
theorem DK.nil : DK [] (fun _ => False) := fun x => by simp [valV]
theorem DK.put {kvs : List (Key × V)} {S : Nat → Prop} (h : DK kvs S) (x : Nat) (v : V) : DK (putK kvs (Sum.inl (x : Int)) v) (fun y => S y ∨ y = x) := fun y => by
  rw [valV_put]
  by_cases e : y = x
  · subst e
    rw [if_pos rfl]
    exact ⟨fun _ => .inr rfl, fun _ => rfl⟩
  · rw [if_neg (fun z => e (by have := Sum.inl.inj z; omega))]
    rw [h y]
    exact ⟨fun z => .inl z, fun z => z.resolve_right e⟩
theorem DK.cong {kvs : List (Key × V)} {S S' : Nat → Prop} (h : DK kvs S) (e : ∀ x, S x ↔ S' x) : DK kvs S' := fun x => (h x).trans (e x)
theorem putK_le (c : List (Key × V)) (k : Key) (x : V) : (putK c k x).length ≤ c.length + 1 := by
  unfold putK
  split
  · rw [List.length_map]; omega
  · rw [List.length_append]; exact Nat.le_refl _
def sp_rings (K : PySem.W.Frag) (g : Gd) : Sp := fun vs H Q E => ∃ (p : Addr) (a : List Int), vs = [.ref p] ∧ SqT K H p (vI a) ∧ a.length ≤ 1000 ∧
  (SeatB a = false → E (.ref g.NoSeating) none H) ∧ (∀ n a', a = a'.map (fun (x : Nat) => (x : Int)) → IsP n a' → 1 ≤ n → n ≤ 16 → NewLT H (ringsN a') Q)
theorem len_rings (K : PySem.W.Frag) (g : Gd) (vs : List V) (H : Hp) (Q : VK) (E : XK) (h : sp_rings K g vs H Q E) : vs.length = 1 := by obtain ⟨_, _, rfl, _⟩ := h; rfl
abbrev N_rings : List Str := ["a", "found", "seen", "k", "ring", "at"]
/-- rings -/
def t_rings (K : PySem.W.Frag) (g : Gd) (E : XK) : TS :=
  (tSeq (tDrop (tCallS (sp_ask_seating K g) (WE (wE E)) (tCons (tVar 0) tNil)))
    (tSeq (tAsg (tLst tNil) (gName 1))
    (tSeq (tAsg tDNewK (gName 2))
    (tSeq (tFor (iRng1 (tCons (tCB (rLenQ K) (tCons (tVar 0) tNil)) tNil)) (gName 3) (tIfS (tB (tDNotIn (tVar 3) (tVar 2))) (tSeq (tAsg (tLst (tCons (tVar 3) tNil)) (gName 4))
    (tSeq (tAsg (tOp (rIxT K) (tVar 0) (tVar 3)) (gName 5))
    (tSeq (tWhile (tTest (tOp rNe (tVar 5) (tVar 3))) (tSeq (tDrop (tBM K "list" rAppend (tVar 4) (tCons (tVar 5) tNil)))
    (tSeq (sDPut (tVar 2) (tVar 5) (tC (.bl true)))
    (tAsg (tOp (rIxT K) (tVar 0) (tVar 5)) (gName 5)))))
    (tIfS (tTest (tOp rGtI (tCB (rLenQ K) (tCons (tVar 4) tNil)) (tC (.int 1)))) (tDrop (tBM K "list" rAppend (tVar 1) (tCons (tCB (rTupOf K) (tCons (tVar 4) tNil)) tNil))) tNext)))) tNext))
    (tRet (tVar 1))))))
theorem pure_rings {K : PySem.W.Frag} {g : Gd} (vs : List V) (H : Hp) (Q : VK) (E : XK) (h : sp_rings K g vs H Q E) : Rd1 (t_rings K g E) N_rings vs H Q := by
  obtain ⟨p, a, rfl, hp, hla, e1, k⟩ := h
  unfold t_rings
  walk_at "rd"
  refine ⟨p, a, rfl, hp, hla, fun ca => ?_, fun c => e1 c⟩
  obtain ⟨b, pb, eb, h1, h2⟩ := seatB_is ca
  have k := k _ b eb pb h1 h2
  rw [eb, ← vN_eq] at hp
  clear e1 ca
  generalize hn : a.length = n at *
  walk_at "rd"
  refine ⟨zl (Nat.zero_le _), fun f hf => ?_⟩
  have s1 := (Same.refl H).new (o := .lst []) hf
  walk_at "rd"
  refine w_dnew fun d hd => ?_
  have s2 := s1.new (o := .dK []) hd
  have hd0 : H d = none := s1.free hd
  have hfd : f ≠ d := ne_of_none upd_same hd
  walk_at "rd"
  refine len_TN (s2.tup hp) ?_
  rw [pb.len]
  walk_at "rd"
  refine w_for1 (by omega) (fun i σ H' => (∃ v r t, σ = [some (.ref p), some (.ref f), some (.ref d), v, r, t]) ∧ Same H H' ∧ (∃ vs, H' f = some (.lst vs) ∧ LT H' vs (ringsK b i)) ∧ (∃ kvs, H' d = some (.dK kvs) ∧ kvs.length ≤ i * 17 ∧ DK kvs (SeenP b i)))
    ⟨⟨_, _, _, rfl⟩, s2, ⟨[], by rw [upd_ne hfd, upd_same], .nil⟩, ⟨[], upd_same, Nat.le_refl _, fun x => ⟨fun z => by simp [valV] at z, fun ⟨q, hq, _⟩ => absurd hq (Nat.not_lt_zero q)⟩⟩⟩ ?_ ?_
  · rintro i σ H1 hi ⟨⟨v, r, t, rfl⟩, s, ⟨vs, hF, hLT⟩, ⟨kvs, hD, hkl, hDK⟩⟩
    walk_at "rd"
    refine w_dnotin ?_
    walk_at "rd"
    refine ⟨d, _, rfl, DGet.k (k := Sum.inl (i : Int)) hD, ?_⟩
    walk_at "rd"
    have hsn := seen_iff pb hi
    refine if_nb (fun c => ?_) (fun c => ?_)
    · -- not seen: the least of its ring
      have hmin : isMin b i = true := by
        cases hm : isMin b i with
        | true => rfl
        | false =>
          have := (hDK i).mpr (hsn.mpr hm)
          rw [c] at this; cases this
      obtain ⟨q1, q2, q3, q4⟩ := per_spec pb hi
      walk_at "rd"
      refine ⟨zl (by show 1 ≤ 100000; decide), fun l hl => ?_⟩
      have hl0 := s.free hl
      have s3 := s.new (o := .lst [V.int (i : Int)]) hl
      have hfl : f ≠ l := ne_of_none hF hl
      have hdl : d ≠ l := ne_of_none hD hl
      walk_at "rd"
      refine ix_TN (i := i) (s3.tup hp) (by rw [pb.len]; exact hi) rfl ?_
      walk_at "rd"
      refine w_while ⟨fun m σ H' => ∃ j, 1 ≤ j ∧ j + m = per b i ∧ σ = [some (.ref p), some (.ref f), some (.ref d), some (.int (i : Int)), some (.ref l), some (.int ((itr b j i : Nat) : Int))] ∧ Same H H' ∧ (H' f = some (.lst vs) ∧ LT H' vs (ringsK b i)) ∧
        (∃ kvs, H' d = some (.dK kvs) ∧ kvs.length ≤ i * 17 + j ∧ DK kvs (fun x => SeenP b i x ∨ ∃ u, 1 ≤ u ∧ u < j ∧ itr b u i = x)) ∧ H' l = some (.lst (vN ((List.range j).map fun u => itr b u i))), ⟨per b i - 1, 1, Nat.le_refl _, by omega, rfl, s3, ⟨by rw [upd_ne hfl]; exact hF, hLT.mono ((Same.refl H1).new hl)⟩,
          ⟨kvs, by rw [upd_ne hdl]; exact hD, by omega, hDK.cong fun x => ⟨fun z => .inl z, fun z => z.elim (fun z => z) fun ⟨u, a, b, _⟩ => by omega⟩⟩, upd_same⟩, ?_⟩
      clear hD hDK hkl hF hLT c s3 kvs
      rintro m σ H2 ⟨j, hj1, hjm, rfl, s, ⟨hF, hLT⟩, ⟨kvs, hD, hkl, hDK⟩, hL⟩
      walk_at "rd"
      refine if_nd (fun c => ?_) (fun c => ?_)
      · -- one more
        have hjp : j < per b i := by
          refine Decidable.byContradiction fun z => c ?_
          have : j = per b i := by omega
          rw [this, q1]
        refine ⟨_, fun σ' H' h => ⟨m - 1, by omega, h⟩, ?_⟩
        have hlt := itr_lt pb hi j
        have hdl2 : d ≠ l := ne_of hD hL (by intro z; cases z)
        have hfl2 : f ≠ l := hfl
        have hfd2 : f ≠ d := ne_of hF hD (by intro z; cases z)
        walk_at "rd"
        refine ⟨isL (sqL hL), ?_⟩
        walk_at "rd"
        refine app_N (a := (List.range j).map fun u => itr b u i) hL (by rw [List.length_map, List.length_range]; omega) ?_
        walk_at "sq"
        refine w_dput ?_
        walk_at "rd"
        refine ⟨d, _, rfl, DPut.k (k := Sum.inl ((itr b j i : Nat) : Int)) (by rw [upd_ne hdl2]; exact hD) (zlt (by omega)), ?_⟩
        walk_at "rd"
        have s5 := (s.up (o := .lst (vN ((List.range j).map (fun u => itr b u i) ++ [itr b j i]))) hl0).up (o := .dK (putK kvs (Sum.inl ((itr b j i : Nat) : Int)) (V.bl true))) hd0
        refine ix_TN (i := itr b j i) (s5.tup hp) (by rw [pb.len]; exact hlt) rfl ?_
        refine ⟨j + 1, by omega, by omega, rfl, s5, ⟨by rw [upd_ne hfd2, upd_ne hfl2]; exact hF, ?_⟩, ⟨_, upd_same, ?_, ?_⟩, ?_⟩
        · exact (hLT.upL hL).updD (by rw [upd_ne hdl2]; exact hD)
        · have := putK_le kvs (Sum.inl ((itr b j i : Nat) : Int)) (V.bl true); omega
        · refine (hDK.put (itr b j i) (V.bl true)).cong fun x => ⟨fun z => ?_, fun z => ?_⟩
          · rcases z with (z | ⟨u, a1, a2, a3⟩) | z
            · exact .inl z
            · exact .inr ⟨u, a1, by omega, a3⟩
            · exact .inr ⟨j, hj1, by omega, z.symm⟩
          · rcases z with z | ⟨u, a1, a2, a3⟩
            · exact .inl (.inl z)
            · by_cases e : u = j
              · exact .inr (by rw [← a3, e])
              · exact .inl (.inr ⟨u, a1, by omega, a3⟩)
        · rw [upd_ne hdl2.symm, upd_same, List.range_succ, List.map_append] <;> rfl
      · -- the ring is whole
        have hjp : j = per b i := by
          refine Decidable.byContradiction fun z => q3 j hj1 (by omega) (by have := c; omega)
        subst hjp
        have hr : H2 l = some (.lst (vN (ring b i))) := hL
        have hseen : ∀ x, (SeenP b i x ∨ ∃ u, 1 ≤ u ∧ u < per b i ∧ itr b u i = x) ↔ SeenP b (i + 1) x := fun x => by
          constructor
          · rintro (⟨q, h1, h2, h3⟩ | ⟨u, a1, a2, a3⟩)
            · exact ⟨q, by omega, h2, h3⟩
            · exact ⟨i, by omega, hmin, by rw [← a3]; exact mem_ring pb hi u, fun z => q3 u a1 a2 (by rw [a3, z])⟩
          · rintro ⟨q, h1, h2, h3, h4⟩
            by_cases e : q = i
            · subst e
              obtain ⟨u, hu, hx⟩ := ring_mem h3
              refine .inr ⟨u, ?_, hu, hx⟩
              refine Nat.pos_of_ne_zero fun z => h4 ?_
              rw [← hx, z] <;> rfl
            · exact .inl ⟨q, by omega, h2, h3, h4⟩
        walk_at "rd"
        refine len_LN (sqL hr) ?_
        walk_at "rd"
        rw [ring_len]
        refine if_d (fun c2 => ?_) (fun c2 => ?_)
        · walk_at "rd"
          refine ⟨isL (sqL hF), ?_⟩
          walk_at "rd"
          refine tup_L (sqL hr) fun t ht => ?_
          have hft : f ≠ t := ne_of_none hF ht
          have hdt : d ≠ t := ne_of_none hD ht
          walk_at "rd"
          refine app_V (xs := vs) (by rw [upd_ne hft]; exact hF) (by rw [hLT.len]; have := ringsK_len b i; omega) ?_
          have hfd2 : f ≠ d := ne_of hF hD (by intro z; cases z)
          refine ⟨⟨_, _, _, rfl⟩, (s.new ht).up hf, ⟨_, upd_same, ?_⟩, ⟨kvs, ?_, by omega, hDK.cong hseen⟩⟩
          · rw [ringsK_succ, hmin, decide_eq_true (by omega)]
            refine LT.snoc ?_ ?_
            · rw [upd_ne hft.symm, upd_same]
            · exact (hLT.mono ((Same.refl H2).new ht)).upL (by rw [upd_ne hft]; exact hF)
          · rw [upd_ne hfd2.symm, upd_ne hdt]; exact hD
        · walk_at "rd"
          refine ⟨⟨_, _, _, rfl⟩, s, ⟨vs, hF, ?_⟩, ⟨kvs, hD, by omega, hDK.cong hseen⟩⟩
          rw [ringsK_succ, decide_eq_false (by omega), Bool.and_false]
          exact (List.append_nil (ringsK b i)).symm ▸ hLT
    · -- seen
      have hmin : isMin b i = false := hsn.mp ((hDK i).mp c)
      walk_at "rd"
      refine ⟨⟨_, _, _, rfl⟩, s, ⟨vs, hF, ?_⟩, ⟨kvs, hD, by omega, hDK.cong fun x => ⟨fun ⟨q, h1, h2⟩ => ⟨q, by omega, h2⟩, fun ⟨q, h1, h2, h3⟩ => ⟨q, ?_, h2, h3⟩⟩⟩⟩
      · rw [ringsK_succ, hmin, Bool.false_and]
        exact (List.append_nil (ringsK b i)).symm ▸ hLT
      · by_cases e : q = i
        · rw [e, hmin] at h2; cases h2
        · omega
  · rintro σ H1 ⟨⟨v, r, t, rfl⟩, s, ⟨vs, hF, hLT⟩, _⟩
    walk_at "rd"
    refine k f H1 vs s hf hF ?_
    unfold ringsN
    rw [pb.len]
    exact hLT
/-- the rings' lengths, each less one, added up -/
def oddN (as : List (List Nat)) : Int := as.foldl (fun t r => t + (r.length : Int) - 1) 0
theorem oddN_snoc (as : List (List Nat)) (r : List Nat) : oddN (as ++ [r]) = oddN as + (r.length : Int) - 1 := by
  unfold oddN
  rw [List.foldl_append] <;> rfl
end Shf

/-! the age of a seating, a seating done many times; law k06 -/
namespace Shf
open PySem L2
/-! ### powers -/
def pw (a : List Nat) : Nat → List Nat
  | 0 => List.range a.length
  | j + 1 => jn (pw a j) a
section
variable {n : Nat} {a : List Nat}
theorem isP_pw (h : IsP n a) : ∀ j, IsP n (pw a j)
  | 0 => by show IsP n (List.range a.length); rw [h.len]; exact isP_id n
  | j + 1 => isP_jn (isP_pw h j) h
theorem pw_get (h : IsP n a) {x : Nat} (hx : x < n) : ∀ j, (pw a j).getD x 0 = itr a j x
  | 0 => by show (List.range a.length).getD x 0 = x; rw [range_getD (by rw [h.len]; exact hx)]
  | j + 1 => by
    show (jn (pw a j) a).getD x 0 = a.getD (itr a j x) 0
    rw [jn_get (by rw [(isP_pw h j).len]; exact hx), pw_get h hx j]
theorem pw_id_iff (h : IsP n a) (j : Nat) : pw a j = List.range n ↔ ∀ x, x < n → itr a j x = x := by
  constructor
  · intro e x hx
    rw [← pw_get h hx, e, range_getD hx]
  · intro e
    refine ext_getD (by rw [(isP_pw h j).len, List.length_range]) fun x hx => ?_
    rw [(isP_pw h j).len] at hx
    rw [pw_get h hx, e x hx, range_getD hx]
theorem itr_dvd (h : IsP n a) {k : Nat} (hk : k < n) (m : Nat) : itr a m k = k ↔ per a k ∣ m := by
  obtain ⟨q1, q2, q3, q4⟩ := per_spec h hk
  constructor
  · intro e
    have e1 : itr a (m % per a k) k = k := by
      have : itr a m k = itr a (m % per a k) k := by
        conv => lhs; rw [← Nat.div_add_mod m (per a k), Nat.add_comm, itr_add, Nat.mul_comm, itr_mul h hk]
      rw [← this]; exact e
    refine Nat.dvd_of_mod_eq_zero (Decidable.byContradiction fun z => ?_)
    exact q3 (m % per a k) (by omega) (Nat.mod_lt _ q2) e1
  · rintro ⟨c, rfl⟩
    rw [Nat.mul_comm]
    exact itr_mul h hk c
/-- seats of one ring have rings of one length -/
theorem per_same (h : IsP n a) {k x : Nat} (hk : k < n) (hx : x ∈ ring a k) : per a x = per a k := by
  have hxn := ring_lt h hk hx
  have l1 := nd_sub_len (ring_nd h hxn) (m := ring a k) fun y hy => ring_trans h hk hx hy
  have l2 := nd_sub_len (ring_nd h hk) (m := ring a x) fun y hy => ring_trans h hxn (ring_symm h hk hx) hy
  rw [ring_len, ring_len] at l1 l2
  omega
theorem rings_mem {r : List Nat} {m : Nat} : r ∈ ringsK a m ↔ ∃ q, q < m ∧ isMin a q = true ∧ 1 < per a q ∧ ring a q = r := by
  unfold ringsK
  rw [List.mem_map]
  constructor
  · rintro ⟨q, hq, e⟩
    obtain ⟨h1, h2⟩ := List.mem_filter.mp hq
    rw [Bool.and_eq_true, decide_eq_true_eq] at h2
    exact ⟨q, List.mem_range.mp h1, h2.1, h2.2, e⟩
  · rintro ⟨q, h1, h2, h3, e⟩
    exact ⟨q, List.mem_filter.mpr ⟨List.mem_range.mpr h1, by rw [h2, decide_eq_true h3] <;> rfl⟩, e⟩
/-- the age: the rings' lengths' least common multiple -/
def ageK (rs : List (List Nat)) : Nat := rs.foldl (fun m r => Nat.lcm m r.length) 1
def ageN (a : List Nat) : Nat := ageK (ringsN a)
theorem ageK_snoc (rs : List (List Nat)) (r : List Nat) : ageK (rs ++ [r]) = Nat.lcm (ageK rs) r.length := by
  unfold ageK
  rw [List.foldl_append] <;> rfl
theorem foldl_lcm_dvd (m : Nat) : ∀ (rs : List (List Nat)) (c : Nat), rs.foldl (fun m r => Nat.lcm m r.length) c ∣ m ↔ c ∣ m ∧ ∀ r ∈ rs, r.length ∣ m
  | [], c => by simp
  | r :: rs, c => by
    rw [List.foldl_cons, foldl_lcm_dvd m rs]
    constructor
    · rintro ⟨h1, h2⟩
      refine ⟨Nat.dvd_trans (Nat.dvd_lcm_left _ _) h1, fun q hq => ?_⟩
      rcases List.mem_cons.mp hq with e | hq
      · rw [e]; exact Nat.dvd_trans (Nat.dvd_lcm_right _ _) h1
      · exact h2 q hq
    · rintro ⟨h1, h2⟩
      exact ⟨Nat.lcm_dvd h1 (h2 r List.mem_cons_self), fun q hq => h2 q (List.mem_cons_of_mem _ hq)⟩
theorem ageK_dvd (rs : List (List Nat)) (m : Nat) : ageK rs ∣ m ↔ ∀ r ∈ rs, r.length ∣ m := by
  unfold ageK
  rw [foldl_lcm_dvd]
  exact ⟨fun h => h.2, fun h => ⟨Nat.one_dvd m, h⟩⟩
theorem pw_age (h : IsP n a) (m : Nat) : pw a m = List.range n ↔ ageN a ∣ m := by
  rw [pw_id_iff h]
  unfold ageN
  rw [ageK_dvd]
  constructor
  · intro e r hr
    unfold ringsN at hr
    obtain ⟨q, h1, _, _, rfl⟩ := rings_mem.mp hr
    rw [h.len] at h1
    rw [ring_len]
    exact (itr_dvd h h1 m).mp (e q h1)
  · intro e x hx
    rw [itr_dvd h hx]
    obtain ⟨q, hq, hl⟩ := least_of (ring a x) (fun z => by have := ring_self h hx; rw [z] at this; cases this)
    have hqn := ring_lt h hx hq
    have hp := per_same h hx hq
    rw [← hp]
    by_cases c : 1 < per a q
    · have := e (ring a q) (rings_mem.mpr ⟨q, by rw [h.len]; exact hqn, isMin_iff.mpr fun y hy => hl y (ring_trans h hx hq hy), c, rfl⟩)
      rw [ring_len] at this
      exact this
    · have h1 := (per_spec h hqn).2.1
      have : per a q = 1 := by omega
      rw [this]
      exact Nat.one_dvd m
theorem rings_disj (h : IsP n a) : ∀ m, m ≤ n → (ringsK a m).flatten.Nodup ∧ ∀ x ∈ (ringsK a m).flatten, ∃ q, q < m ∧ isMin a q = true ∧ x ∈ ring a q
  | 0, _ => ⟨List.nodup_nil, fun x hx => by cases hx⟩
  | m + 1, hm => by
    obtain ⟨i1, i2⟩ := rings_disj h m (by omega)
    rw [ringsK_succ]
    by_cases c : (isMin a m && decide (1 < per a m)) = true
    · rw [if_pos c, List.flatten_append]
      rw [Bool.and_eq_true] at c
      have e : [ring a m].flatten = ring a m := by simp
      rw [e]
      refine ⟨List.nodup_append.mpr ⟨i1, ring_nd h (by omega), fun x hx y hy e => ?_⟩, fun x hx => ?_⟩
      · subst e
        obtain ⟨q, q1, q2, q3⟩ := i2 x hx
        have hq : q < n := by omega
        have m1 : m ∈ ring a q := ring_trans h hq q3 (ring_symm h (by omega) hy)
        have := isMin_iff.mp c.1 q (ring_symm h hq m1)
        omega
      · rcases List.mem_append.mp hx with hx | hx
        · obtain ⟨q, q1, q2, q3⟩ := i2 x hx
          exact ⟨q, by omega, q2, q3⟩
        · exact ⟨m, by omega, c.1, hx⟩
    · rw [if_neg c, List.append_nil]
      exact ⟨i1, fun x hx => by
        obtain ⟨q, q1, q2, q3⟩ := i2 x hx
        exact ⟨q, by omega, q2, q3⟩⟩
theorem rings_sum (h : IsP n a) : (ringsN a).flatten.length ≤ n := by
  obtain ⟨i1, i2⟩ := rings_disj h n (Nat.le_refl n)
  unfold ringsN
  rw [h.len]
  have := nd_sub_len (m := List.range n) i1 fun x hx => by
    obtain ⟨q, q1, _, q3⟩ := i2 x hx
    exact List.mem_range.mpr (ring_lt h q1 q3)
  rw [List.length_range] at this
  exact this
theorem len_le_pow (l : Nat) : l ≤ 2 ^ l := Nat.le_of_lt Nat.lt_two_pow_self
theorem ageK_le : ∀ (rs : List (List Nat)), ageK rs ≤ 2 ^ rs.flatten.length := fun rs => by
  have g : ∀ (rs : List (List Nat)) (c : Nat), rs.foldl (fun m r => Nat.lcm m r.length) c ≤ c * 2 ^ rs.flatten.length := fun rs => by
    induction rs with
    | nil => intro c; simp
    | cons r rs ih =>
      intro c
      rw [List.foldl_cons, List.flatten_cons, List.length_append, Nat.pow_add, ← Nat.mul_assoc]
      refine Nat.le_trans (ih _) (Nat.mul_le_mul_right _ ?_)
      exact Nat.le_trans (Nat.div_le_self _ _) (Nat.mul_le_mul_left _ (len_le_pow _))
  have := g rs 1
  rw [Nat.one_mul] at this
  exact this
theorem ageK_pos {m : Nat} (h : ∀ r ∈ ringsK a m, 0 < r.length) : 0 < ageK (ringsK a m) := by
  have g : ∀ (rs : List (List Nat)) (c : Nat), 0 < c → (∀ r ∈ rs, 0 < r.length) → 0 < rs.foldl (fun m r => Nat.lcm m r.length) c := fun rs => by
    induction rs with
    | nil => intro c hc _; exact hc
    | cons r rs ih => intro c hc hr; exact ih _ (Nat.lcm_pos hc (hr r List.mem_cons_self)) fun q hq => hr q (List.mem_cons_of_mem _ hq)
  exact g _ 1 (by decide) h
end
theorem ageN_le {n : Nat} {a : List Nat} (h : IsP n a) (hn : n ≤ 16) : ageN a ≤ 65536 := by
  have h1 := ageK_le (ringsN a)
  have h2 := rings_sum h
  have h3 : 2 ^ (ringsN a).flatten.length ≤ 2 ^ 16 := Nat.pow_le_pow_right (by decide) (by omega)
  unfold ageN
  exact Nat.le_trans h1 h3
theorem ageN_pos {a : List Nat} : 0 < ageN a := by
  refine ageK_pos fun r hr => ?_
  obtain ⟨q, _, _, h, rfl⟩ := rings_mem.mp hr
  rw [ring_len]; omega
end Shf

/-! the book: seatings by their steps, the table; mathematics alone -/
namespace Shf
open PySem L2
inductive Stp where
  | rest | move (i : Nat) | back (i : Nat) | thn (i j : Nat)
structure Bk where
  n : Nat
  steps : List Stp
  made : List (List Nat)
  rows : List (List (Nat × Nat))
  kept : List Nat
namespace Bk
def new (n : Nat) : Bk := ⟨n, [.rest], [List.range n], (List.range n).map fun k => [(k, 0)], []⟩
def note (B : Bk) (s : Stp) (a : List Nat) : Bk := { B with steps := B.steps ++ [s], made := B.made ++ [a] }
def mk' (B : Bk) (i : Nat) : List Nat := B.made.getD i []
def row (B : Bk) (k : Nat) : List (Nat × Nat) := B.rows.getD k []
end Bk
/-- what a row keeps for a seat -/
def rowGet (r : List (Nat × Nat)) (j : Nat) : Option Nat := (r.find? fun p => decide (p.1 = j)).map (·.2)
namespace Bk
/-- from seat k on: where it stops, what is left, the steps gone by -/
def siftGo (B : Bk) : Nat → Nat → List Nat → List Nat → Nat × List Nat × List Nat
  | 0, k, left, went => (k, left, went)
  | f + 1, k, left, went => match rowGet (B.row k) (left.getD k 0) with
    | none => (k, left, went)
    | some i => siftGo B f (k + 1) (jn left (trn (B.mk' i))) (went ++ [i])
def sift (B : Bk) (a : List Nat) : Nat × List Nat × List Nat := B.siftGo B.n 0 a []
def keepStep (s : Bk × List Nat × Nat) (one : Nat) : Bk × List Nat × Nat :=
  if one = 0 then s else
    ((s.1.note (.back one) (trn (s.1.mk' one))).note (.thn s.2.2 s.1.steps.length) (jn s.2.1 (trn (s.1.mk' one))), jn s.2.1 (trn (s.1.mk' one)), s.1.steps.length + 1)
def keepF (B : Bk) (i : Nat) (went : List Nat) : Bk × List Nat × Nat := went.foldl keepStep (B, B.mk' i, i)
def setRow (B : Bk) (k j i : Nat) : Bk := { B with rows := B.rows.set k (B.row k ++ [(j, i)]), kept := B.kept ++ [i] }
def keep (B : Bk) (i k : Nat) (went : List Nat) : Bk × Nat :=
  ((B.keepF i went).1.setRow k ((B.keepF i went).2.1.getD k 0) (B.keepF i went).2.2, (B.keepF i went).2.2)
def prs (i : Nat) (kept : List Nat) : List (Nat × Nat) := kept.flatMap fun o => [(i, o), (o, i)]
/-- one pair, taken from the end of what is to do -/
def closeStep (B : Bk) (t : List (Nat × Nat)) (p q : Nat) (grew : Bool) : Bk × List (Nat × Nat) × Bool :=
  if (B.sift (jn (B.mk' p) (B.mk' q))).1 < B.n then
    let B1 := if q = 0 then B else B.note (.thn p q) (jn (B.mk' p) (B.mk' q))
    let i := if q = 0 then p else B.steps.length
    let r := B1.keep i (B.sift (jn (B.mk' p) (B.mk' q))).1 (B.sift (jn (B.mk' p) (B.mk' q))).2.2
    (r.1, t ++ prs r.2 r.1.kept, true)
  else (B, t, grew)
def closeGo : Nat → Bk × List (Nat × Nat) × Bool → Bk × List (Nat × Nat) × Bool
  | 0, s => s
  | f + 1, s => match s.2.1.getLast? with
    | none => s
    | some pq => closeGo f (closeStep s.1 s.2.1.dropLast pq.1 pq.2 s.2.2)
def close (B : Bk) (first : Nat) : Bk × Bool := let r := closeGo 40000 (B, [(first, 0)], false); (r.1, r.2.2)
end Bk

/-! ### what holds of a book -/
def Fix (k : Nat) (a : List Nat) : Prop := ∀ x, x < k → a.getD x 0 = x
/-- a step shows the seating that it made -/
def StpOk (n : Nat) (moves made : List (List Nat)) (i : Nat) : Stp → Prop
  | .rest => made[i]? = some (List.range n)
  | .move j => ∃ a, moves[j]? = some a ∧ made[i]? = some a
  | .back j => j < i ∧ made[i]? = some (trn (made.getD j []))
  | .thn j l => j < i ∧ l < i ∧ made[i]? = some (jn (made.getD j []) (made.getD l []))
structure RowOk (n : Nat) (made : List (List Nat)) (kept : List Nat) (k : Nat) (r : List (Nat × Nat)) : Prop where
  nd : (r.map (·.1)).Nodup
  hd : (k, 0) ∈ r
  en : ∀ j i, (j, i) ∈ r → i < made.length ∧ Fix k (made.getD i []) ∧ (made.getD i []).getD k 0 = j ∧ (i = 0 ∨ i ∈ kept)
structure BkOk (B : Bk) (moves : List (List Nat)) : Prop where
  h1 : 1 ≤ B.n
  h2 : B.n ≤ 16
  len : B.steps.length = B.made.length
  m0 : B.made[0]? = some (List.range B.n)
  mp : ∀ a ∈ B.made, IsP B.n a
  val : ∀ i s, B.steps[i]? = some s → StpOk B.n moves B.made i s
  rl : B.rows.length = B.n
  row : ∀ k, k < B.n → RowOk B.n B.made B.kept k (B.row k)
  kp : ∀ i ∈ B.kept, ∃ k j, k < B.n ∧ (j, i) ∈ B.row k
  cnt : B.kept.length + B.n = (B.rows.map List.length).sum
  stb : B.steps.length ≤ 1 + moves.length + B.kept.length * (2 * B.n)

theorem rowGet_mem {r : List (Nat × Nat)} {j i : Nat} (h : rowGet r j = some i) : (j, i) ∈ r := by
  unfold rowGet at h
  cases e : r.find? (fun p => decide (p.1 = j)) with
  | none => rw [e] at h; cases h
  | some p =>
    rw [e] at h
    have h1 := List.find?_some e
    have h2 := List.mem_of_find?_eq_some e
    have h3 : p.2 = i := Option.some.inj h
    have h4 : p.1 = j := of_decide_eq_true h1
    rw [← h3, ← h4]
    exact h2
theorem rowGet_of {r : List (Nat × Nat)} (nd : (r.map (·.1)).Nodup) {j i : Nat} (h : (j, i) ∈ r) : rowGet r j = some i := by
  induction r with
  | nil => cases h
  | cons p r ih =>
    have nd : (p.1 :: r.map (·.1)).Nodup := nd
    obtain ⟨n1, n2⟩ := List.nodup_cons.mp nd
    unfold rowGet
    rw [List.find?_cons]
    rcases List.mem_cons.mp h with e | h
    · subst e
      simp
    · have hne : p.1 ≠ j := fun e => n1 (by rw [e]; exact List.mem_map.mpr ⟨_, h, rfl⟩)
      rw [decide_eq_false hne]
      exact ih n2 h
theorem rowGet_none {r : List (Nat × Nat)} {j : Nat} (h : rowGet r j = none) : ∀ i, (j, i) ∉ r := fun i hm => by
  unfold rowGet at h
  rw [Option.map_eq_none_iff, List.find?_eq_none] at h
  exact h _ hm (decide_eq_true rfl)
theorem rowGet_snoc {r : List (Nat × Nat)} {j i j' i' : Nat} (h : rowGet r j = some i) : rowGet (r ++ [(j', i')]) j = some i := by
  unfold rowGet at h ⊢
  rw [List.find?_append]
  cases e : r.find? (fun p => decide (p.1 = j)) with
  | none => rw [e] at h; cases h
  | some p => rw [e] at h; exact h
section
variable {B : Bk} {moves : List (List Nat)}
theorem BkOk.pos (h : BkOk B moves) : 0 < B.made.length := (List.getElem?_eq_some_iff.mp h.m0).1
theorem BkOk.mkP (h : BkOk B moves) {i : Nat} (hi : i < B.made.length) : IsP B.n (B.mk' i) := by
  refine h.mp _ ?_
  have : B.made[i]? = some (B.mk' i) := by unfold Bk.mk'; rw [List.getD_eq_getElem?_getD, List.getElem?_eq_getElem hi] <;> rfl
  exact List.mem_of_getElem? this
theorem BkOk.mk0 (h : BkOk B moves) : B.mk' 0 = List.range B.n := by unfold Bk.mk'; rw [List.getD_eq_getElem?_getD, h.m0] <;> rfl
theorem BkOk.get0 (h : BkOk B moves) {k : Nat} (hk : k < B.n) : rowGet (B.row k) k = some 0 := rowGet_of (h.row k hk).nd (h.row k hk).hd
/-- the table as it keeps: entries by seat -/
def Ent (B : Bk) (k i : Nat) : Prop := ∃ j, (j, i) ∈ B.row k
theorem Fix.jn {n k : Nat} {a b : List Nat} (ha : IsP n a) (hk : k ≤ n) (fa : Fix k a) (fb : Fix k b) : Fix k (Shf.jn a b) := fun x hx => by
  rw [jn_get (by rw [ha.len]; omega), fa x hx, fb x hx]
theorem Fix.trn {n k : Nat} {a : List Nat} (ha : IsP n a) (hk : k ≤ n) (fa : Fix k a) : Fix k (Shf.trn a) := fun x hx => by
  have := trn_get ha (i := x) (by omega)
  rw [fa x hx] at this
  exact this
theorem Fix.id_of {n : Nat} {a : List Nat} (ha : IsP n a) (fa : Fix n a) : a = List.range n := by
  refine ext_getD (by rw [ha.len, List.length_range]) fun i hi => ?_
  rw [ha.len] at hi
  rw [fa i hi, range_getD hi]
theorem fix_id (n k : Nat) (hk : k ≤ n) : Fix k (List.range n) := fun x hx => range_getD (by omega)
/-- sifting, from any place: what is known behind it -/
theorem siftGo_spec (h : BkOk B moves) : ∀ (f k : Nat) (left went : List Nat), k + f = B.n → IsP B.n left → Fix k left → (∀ i ∈ went, i < B.made.length) → went.length = k →
    let r := B.siftGo f k left went
    k ≤ r.1 ∧ r.1 ≤ B.n ∧ IsP B.n r.2.1 ∧ Fix r.1 r.2.1 ∧ (∀ i ∈ r.2.2, i < B.made.length) ∧ r.2.2.length = r.1 ∧ (r.1 < B.n → rowGet (B.row r.1) (r.2.1.getD r.1 0) = none)
  | 0, k, left, went, hk, hp, hf, hw, hl => ⟨Nat.le_refl _, by show k ≤ B.n; omega, hp, hf, hw, hl, fun c => absurd c (by show ¬ k < B.n; omega)⟩
  | f + 1, k, left, went, hk, hp, hf, hw, hl => by
    unfold Bk.siftGo
    cases e : rowGet (B.row k) (left.getD k 0) with
    | none => exact ⟨Nat.le_refl _, by show k ≤ B.n; omega, hp, hf, hw, hl, fun _ => e⟩
    | some i =>
      have ro := h.row k (by omega)
      obtain ⟨e1, e2, e3, e4⟩ := ro.en _ _ (rowGet_mem e)
      have pi := h.mkP e1
      have pt := isP_trn pi
      have hf' : Fix (k + 1) (jn left (trn (B.mk' i))) := fun x hx => by
        rw [jn_get (by rw [hp.len]; omega)]
        by_cases c : x = k
        · rw [c, ← e3]
          exact trn_get pi (by omega)
        · have := hf.jn hp (by omega) (Fix.trn pi (by omega) e2) x (by omega)
          rw [jn_get (by rw [hp.len]; omega)] at this
          exact this
      obtain ⟨g1, g2, g3, g4, g5, g6, g7⟩ := siftGo_spec h f (k + 1) (jn left (trn (B.mk' i))) (went ++ [i]) (by omega) (isP_jn hp pt) hf' (fun x hx => by
        rcases List.mem_append.mp hx with hx | hx
        · exact hw x hx
        · rw [List.mem_singleton.mp hx]; exact e1) (by rw [List.length_append, hl] <;> rfl)
      exact ⟨Nat.le_trans (Nat.le_succ k) g1, g2, g3, g4, g5, g6, g7⟩
theorem sift_spec (h : BkOk B moves) {a : List Nat} (ha : IsP B.n a) :
    (B.sift a).1 ≤ B.n ∧ IsP B.n (B.sift a).2.1 ∧ Fix (B.sift a).1 (B.sift a).2.1 ∧ (∀ i ∈ (B.sift a).2.2, i < B.made.length) ∧ (B.sift a).2.2.length = (B.sift a).1 ∧ ((B.sift a).1 < B.n → rowGet (B.row (B.sift a).1) ((B.sift a).2.1.getD (B.sift a).1 0) = none) := by
  obtain ⟨g1, g2, g3, g4, g5, g6, g7⟩ := siftGo_spec h B.n 0 a [] (by omega) ha (fun x hx => absurd hx (Nat.not_lt_zero x)) (fun i hi => by cases hi) rfl
  exact ⟨g2, g3, g4, g5, g6, g7⟩
/-- what is left is what went by the steps' ways back -/
def leftOf (B : Bk) (a : List Nat) (went : List Nat) : List Nat := went.foldl (fun l i => jn l (trn (B.mk' i))) a
theorem siftGo_left (B : Bk) (a : List Nat) : ∀ (f k : Nat) (left went : List Nat), left = leftOf B a went → (B.siftGo f k left went).2.1 = leftOf B a (B.siftGo f k left went).2.2
  | 0, _, _, _, e => e
  | f + 1, k, left, went, e => by
    unfold Bk.siftGo
    cases c : rowGet (B.row k) (left.getD k 0) with
    | none => exact e
    | some i =>
      refine siftGo_left B a f (k + 1) _ _ ?_
      unfold leftOf
      rw [List.foldl_append, e] <;> rfl
theorem sift_left (B : Bk) (a : List Nat) : (B.sift a).2.1 = leftOf B a (B.sift a).2.2 := siftGo_left B a B.n 0 a [] rfl
/-! ### noting a step -/
theorem getD_app {α : Type} {l : List α} {x d : α} {i : Nat} (h : i < l.length) : (l ++ [x]).getD i d = l.getD i d := by
  rw [List.getD_eq_getElem?_getD, List.getElem?_append_left h, ← List.getD_eq_getElem?_getD]
theorem getD_last {α : Type} {l : List α} {x d : α} : (l ++ [x]).getD l.length d = x := by
  rw [List.getD_eq_getElem?_getD, List.getElem?_append_right (Nat.le_refl _), Nat.sub_self] <;> rfl
theorem Bk.note_mk {s : Stp} {a : List Nat} {i : Nat} (hi : i < B.made.length) : (B.note s a).mk' i = B.mk' i := getD_app hi
theorem Bk.note_last {s : Stp} {a : List Nat} : (B.note s a).mk' B.made.length = a := getD_last
theorem Bk.note_len {s : Stp} {a : List Nat} : (B.note s a).made.length = B.made.length + 1 := by
  show (B.made ++ [a]).length = _
  rw [List.length_append] <;> rfl
theorem StpOk.app {n : Nat} {moves made : List (List Nat)} {i : Nat} {s : Stp} {a : List Nat} (hi : i < made.length) (h : StpOk n moves made i s) : StpOk n moves (made ++ [a]) i s := by
  have g : ∀ {j : Nat} {o : List Nat}, j < made.length → made[j]? = some o → (made ++ [a])[j]? = some o := fun hj e => by rw [List.getElem?_append_left hj]; exact e
  cases s with
  | rest => exact g hi h
  | move j => obtain ⟨b, h1, h2⟩ := h; exact ⟨b, h1, g hi h2⟩
  | back j =>
    obtain ⟨h1, h2⟩ := h
    refine ⟨h1, ?_⟩
    rw [getD_app (by omega)]
    exact g hi h2
  | thn j l =>
    obtain ⟨h1, h2, h3⟩ := h
    refine ⟨h1, h2, ?_⟩
    rw [getD_app (by omega), getD_app (by omega)]
    exact g hi h3
/-- BkOk but for the bound of the steps: a step more -/
structure BkPre (B : Bk) (moves : List (List Nat)) : Prop where
  h1 : 1 ≤ B.n
  h2 : B.n ≤ 16
  len : B.steps.length = B.made.length
  m0 : B.made[0]? = some (List.range B.n)
  mp : ∀ a ∈ B.made, IsP B.n a
  val : ∀ i s, B.steps[i]? = some s → StpOk B.n moves B.made i s
  rl : B.rows.length = B.n
  row : ∀ k, k < B.n → RowOk B.n B.made B.kept k (B.row k)
  kp : ∀ i ∈ B.kept, ∃ k j, k < B.n ∧ (j, i) ∈ B.row k
  cnt : B.kept.length + B.n = (B.rows.map List.length).sum
theorem BkOk.pre (h : BkOk B moves) : BkPre B moves := ⟨h.h1, h.h2, h.len, h.m0, h.mp, h.val, h.rl, h.row, h.kp, h.cnt⟩
theorem BkPre.ok (h : BkPre B moves) (s : B.steps.length ≤ 1 + moves.length + B.kept.length * (2 * B.n)) : BkOk B moves := ⟨h.h1, h.h2, h.len, h.m0, h.mp, h.val, h.rl, h.row, h.kp, h.cnt, s⟩
theorem RowOk.app {n : Nat} {made : List (List Nat)} {kept : List Nat} {k : Nat} {r : List (Nat × Nat)} {a : List Nat} (h : RowOk n made kept k r) : RowOk n (made ++ [a]) kept k r :=
  ⟨h.nd, h.hd, fun j i m => by
    obtain ⟨e1, e2, e3, e4⟩ := h.en j i m
    rw [getD_app e1]
    exact ⟨by rw [List.length_append]; show i < made.length + 1; omega, e2, e3, e4⟩⟩
theorem BkPre.note (h : BkPre B moves) {s : Stp} {a : List Nat} (ha : IsP B.n a) (hs : StpOk B.n moves (B.made ++ [a]) B.made.length s) : BkPre (B.note s a) moves where
  h1 := h.h1
  h2 := h.h2
  len := by show (B.steps ++ [s]).length = (B.made ++ [a]).length; rw [List.length_append, List.length_append, h.len] <;> rfl
  m0 := by
    show (B.made ++ [a])[0]? = _
    rw [List.getElem?_append_left (List.getElem?_eq_some_iff.mp h.m0).1]
    exact h.m0
  mp := fun x hx => by
    rcases List.mem_append.mp hx with hx | hx
    · exact h.mp x hx
    · rw [List.mem_singleton.mp hx]; exact ha
  val := fun i t ht => by
    by_cases c : i < B.steps.length
    · have ht' : B.steps[i]? = some t := by
        have : (B.steps ++ [s])[i]? = some t := ht
        rw [List.getElem?_append_left c] at this
        exact this
      exact (h.val i t ht').app (by rw [← h.len]; exact c)
    · have ht' : (B.steps ++ [s])[i]? = some t := ht
      have hi := (List.getElem?_eq_some_iff.mp ht').1
      rw [List.length_append] at hi
      have hi : i < B.steps.length + 1 := hi
      have e : i = B.steps.length := by omega
      subst e
      rw [List.getElem?_append_right (Nat.le_refl _), Nat.sub_self] at ht'
      have : s = t := Option.some.inj ht'
      subst this
      rw [h.len]
      exact hs
  rl := h.rl
  row := fun k hk => (h.row k hk).app
  kp := h.kp
  cnt := h.cnt
end
section
variable {B : Bk} {moves : List (List Nat)}
theorem trn_id (n : Nat) : trn (List.range n) = List.range n := by
  have h := jn_trn (isP_id n)
  have e : jn (List.range n) (trn (List.range n)) = trn (List.range n) := by
    have := id_jn (trn (List.range n))
    rw [trn_len, List.length_range] at this
    exact this
  rw [e] at h
  exact h
theorem BkPre.pos (h : BkPre B moves) : 0 < B.made.length := (List.getElem?_eq_some_iff.mp h.m0).1
theorem BkPre.mk0 (h : BkPre B moves) : B.mk' 0 = List.range B.n := by unfold Bk.mk'; rw [List.getD_eq_getElem?_getD, h.m0] <;> rfl
theorem BkPre.mkP (h : BkPre B moves) {i : Nat} (hi : i < B.made.length) : IsP B.n (B.mk' i) := by
  refine h.mp _ ?_
  have : B.made[i]? = some (B.mk' i) := by unfold Bk.mk'; rw [List.getD_eq_getElem?_getD, List.getElem?_eq_getElem hi] <;> rfl
  exact List.mem_of_getElem? this
/-- what the keeping of what is left has come to, behind some of the steps gone by -/
structure KS (B0 : Bk) (moves : List (List Nat)) (a : List Nat) (w : List Nat) (s : Bk × List Nat × Nat) : Prop where
  pre : BkPre s.1 moves
  en : s.1.n = B0.n
  er : s.1.rows = B0.rows
  ek : s.1.kept = B0.kept
  em : ∀ x, x < B0.made.length → s.1.mk' x = B0.mk' x
  el : B0.made.length ≤ s.1.made.length
  eg : s.2.1 = leftOf B0 a w
  pg : IsP B0.n s.2.1
  li : s.2.2 < s.1.made.length
  mi : s.1.mk' s.2.2 = s.2.1
  st : s.1.steps.length ≤ B0.steps.length + 2 * w.length
  pf : B0.steps <+: s.1.steps
  pm : B0.made <+: s.1.made
theorem KS.step {B0 : Bk} {a w : List Nat} {s : Bk × List Nat × Nat} (h0 : BkPre B0 moves) (h : KS B0 moves a w s) {o : Nat} (ho : o < B0.made.length) : KS B0 moves a (w ++ [o]) (Bk.keepStep s o) := by
  have hw : (w ++ [o]).length = w.length + 1 := by rw [List.length_append] <;> rfl
  have hlo : leftOf B0 a (w ++ [o]) = jn (leftOf B0 a w) (trn (B0.mk' o)) := by
    unfold leftOf
    rw [List.foldl_append] <;> rfl
  unfold Bk.keepStep
  by_cases c : o = 0
  · rw [if_pos c]
    refine { h with eg := ?_, st := by have := h.st; omega }
    rw [hlo, c, h0.mk0, trn_id, h.eg]
    have pg := h.pg
    rw [h.eg] at pg
    exact (jn_id fun x hx => pg.lt hx).symm
  · rw [if_neg c]
    have e1 := h.em o ho
    have po := h0.mkP ho
    have pt := isP_trn po
    have pj := isP_jn h.pg pt
    have hlt : o < s.1.made.length := Nat.lt_of_lt_of_le ho h.el
    have b1 : BkPre (s.1.note (.back o) (trn (s.1.mk' o))) moves := h.pre.note (by rw [h.en, e1]; exact pt) ⟨hlt, by
      rw [List.getElem?_append_right (Nat.le_refl _), Nat.sub_self, getD_app hlt] <;> rfl⟩
    have l1 : (s.1.note (.back o) (trn (s.1.mk' o))).made.length = s.1.made.length + 1 := Bk.note_len
    have hlen := h.pre.len
    have e2 : (s.1.note (.back o) (trn (s.1.mk' o))).mk' s.1.steps.length = trn (s.1.mk' o) := by rw [hlen]; exact Bk.note_last
    have e3 : (s.1.note (.back o) (trn (s.1.mk' o))).mk' s.2.2 = s.2.1 := by rw [Bk.note_mk h.li, h.mi]
    have b2 : BkPre ((s.1.note (.back o) (trn (s.1.mk' o))).note (.thn s.2.2 s.1.steps.length) (jn s.2.1 (trn (s.1.mk' o)))) moves := b1.note (by show IsP s.1.n _; rw [h.en, e1]; exact pj) ⟨by rw [l1]; have := h.li; omega, by rw [l1, hlen]; omega, by
      rw [List.getElem?_append_right (Nat.le_refl _), Nat.sub_self, getD_app (by rw [l1]; have := h.li; omega), getD_app (by rw [l1, hlen]; omega)]
      show some (jn s.2.1 (trn (s.1.mk' o))) = some (jn ((s.1.note (.back o) (trn (s.1.mk' o))).mk' s.2.2) ((s.1.note (.back o) (trn (s.1.mk' o))).mk' s.1.steps.length))
      rw [e2, e3]⟩
    refine ⟨b2, h.en, h.er, h.ek, fun x hx => ?_, ?_, ?_, by rw [e1]; exact pj, ?_, ?_, ?_, ?_, ?_⟩
    · have hx' := Nat.lt_of_lt_of_le hx h.el
      rw [Bk.note_mk (by rw [l1]; omega), Bk.note_mk hx', h.em x hx]
    · have := h.el
      show _ ≤ ((s.1.note (.back o) (trn (s.1.mk' o))).note _ _).made.length
      rw [Bk.note_len, l1]
      omega
    · show jn s.2.1 (trn (s.1.mk' o)) = _
      rw [hlo, e1, h.eg]
    · show s.1.steps.length + 1 < ((s.1.note (.back o) (trn (s.1.mk' o))).note _ _).made.length
      rw [Bk.note_len, l1, hlen]
      omega
    · show ((s.1.note (.back o) (trn (s.1.mk' o))).note _ _).mk' (s.1.steps.length + 1) = _
      rw [hlen, ← l1]
      exact Bk.note_last
    · show ((s.1.steps ++ [_]) ++ [_]).length ≤ _
      rw [List.length_append, List.length_append, hw]
      have := h.st
      show s.1.steps.length + 1 + 1 ≤ _
      omega
    · exact h.pf.trans ((List.prefix_append _ _).trans (List.prefix_append _ _))
    · exact h.pm.trans ((List.prefix_append _ _).trans (List.prefix_append _ _))
theorem KS.start {B0 : Bk} {i : Nat} (h0 : BkPre B0 moves) (hi : i < B0.made.length) : KS B0 moves (B0.mk' i) [] (B0, B0.mk' i, i) :=
  ⟨h0, rfl, rfl, rfl, fun _ _ => rfl, Nat.le_refl _, rfl, h0.mkP hi, hi, rfl, Nat.le_refl _, List.prefix_refl _, List.prefix_refl _⟩
theorem KS.fold {B0 : Bk} {a : List Nat} (h0 : BkPre B0 moves) : ∀ (r w : List Nat) (s : Bk × List Nat × Nat), KS B0 moves a w s → (∀ o ∈ r, o < B0.made.length) → KS B0 moves a (w ++ r) (r.foldl Bk.keepStep s)
  | [], w, s, h, _ => by rw [List.append_nil]; exact h
  | o :: r, w, s, h, hr => by
    have := KS.fold h0 r (w ++ [o]) _ (h.step h0 (hr o List.mem_cons_self)) fun x hx => hr x (List.mem_cons_of_mem _ hx)
    rw [List.append_assoc] at this
    exact this
theorem keepF_spec (h : BkPre B moves) {i : Nat} (hi : i < B.made.length) {went : List Nat} (hw : ∀ o ∈ went, o < B.made.length) : KS B moves (B.mk' i) went (B.keepF i went) :=
  KS.fold h went [] _ (KS.start h hi) hw
/-! ### a new entry of the table -/
theorem row_set {k k' : Nat} {r : List (Nat × Nat)} (hk : k < B.rows.length) : ({ B with rows := B.rows.set k r } : Bk).row k' = if k' = k then r else B.row k' := by
  unfold Bk.row
  show (B.rows.set k r).getD k' [] = _
  rw [List.getD_eq_getElem?_getD]
  by_cases c : k' = k
  · rw [if_pos c, c, List.getElem?_set_self hk] <;> rfl
  · rw [if_neg c, List.getElem?_set_ne (fun z => c z.symm), ← List.getD_eq_getElem?_getD]
theorem sum_set_len : ∀ (rs : List (List (Nat × Nat))) (k : Nat) (p : Nat × Nat), k < rs.length → ((rs.set k (rs.getD k [] ++ [p])).map List.length).sum = (rs.map List.length).sum + 1
  | [], k, _, h => absurd h (Nat.not_lt_zero k)
  | r :: rs, 0, p, _ => by
    show ((r ++ [p]).length + (rs.map List.length).sum) = r.length + (rs.map List.length).sum + 1
    rw [List.length_append]
    show r.length + 1 + _ = _
    omega
  | r :: rs, k + 1, p, h => by
    have ih := sum_set_len rs k p (by simpa using h)
    show r.length + ((rs.set k (rs.getD k [] ++ [p])).map List.length).sum = r.length + (rs.map List.length).sum + 1
    rw [ih]
    omega
theorem setRow_pre (h : BkPre B moves) {k j i : Nat} (hk : k < B.n) (hi : i < B.made.length) (hf : Fix k (B.mk' i)) (hj : (B.mk' i).getD k 0 = j) (hn : rowGet (B.row k) j = none) : BkPre (B.setRow k j i) moves where
  h1 := h.h1
  h2 := h.h2
  len := h.len
  m0 := h.m0
  mp := h.mp
  val := h.val
  rl := by show (B.rows.set k _).length = B.n; rw [List.length_set]; exact h.rl
  row := fun k' hk' => by
    have ro := h.row k' hk'
    have er : (B.setRow k j i).row k' = if k' = k then B.row k ++ [(j, i)] else B.row k' := row_set (by rw [h.rl]; exact hk)
    rw [er]
    by_cases c : k' = k
    · subst c
      rw [if_pos rfl]
      refine ⟨?_, List.mem_append_left _ ro.hd, fun j' i' m => ?_⟩
      · rw [List.map_append]
        refine List.nodup_append.mpr ⟨ro.nd, by simp, fun x hx y hy e => ?_⟩
        obtain ⟨p, hp, e1⟩ := List.mem_map.mp hx
        have e2 : y = j := by simpa using hy
        refine rowGet_none hn p.2 ?_
        have : p.1 = j := by rw [e1, e, e2]
        rw [← this]
        exact hp
      · rcases List.mem_append.mp m with m | m
        · obtain ⟨a1, a2, a3, a4⟩ := ro.en _ _ m
          exact ⟨a1, a2, a3, a4.imp id fun z => List.mem_append_left _ z⟩
        · have e := List.mem_singleton.mp m
          have e1 : j' = j := congrArg Prod.fst e
          have e2 : i' = i := congrArg Prod.snd e
          subst e1 e2
          exact ⟨hi, hf, hj, .inr (List.mem_append_right _ (List.mem_singleton.mpr rfl))⟩
    · rw [if_neg c]
      exact ⟨ro.nd, ro.hd, fun j' i' m => by
        obtain ⟨a1, a2, a3, a4⟩ := ro.en _ _ m
        exact ⟨a1, a2, a3, a4.imp id fun z => List.mem_append_left _ z⟩⟩
  kp := fun x hx => by
    have er : ∀ k', (B.setRow k j i).row k' = if k' = k then B.row k ++ [(j, i)] else B.row k' := fun k' => row_set (by rw [h.rl]; exact hk)
    rcases List.mem_append.mp hx with hx | hx
    · obtain ⟨k1, j1, a1, a2⟩ := h.kp x hx
      refine ⟨k1, j1, a1, ?_⟩
      rw [er]
      by_cases c : k1 = k
      · rw [if_pos c, ← c]; exact List.mem_append_left _ a2
      · rw [if_neg c]; exact a2
    · refine ⟨k, j, hk, ?_⟩
      rw [er, if_pos rfl, List.mem_singleton.mp hx]
      exact List.mem_append_right _ (List.mem_singleton.mpr rfl)
  cnt := by
    show (B.kept ++ [i]).length + B.n = ((B.rows.set k (B.rows.getD k [] ++ [(j, i)])).map List.length).sum
    rw [sum_set_len _ _ _ (by rw [h.rl]; exact hk), ← h.cnt, List.length_append]
    show B.kept.length + 1 + B.n = _
    omega
/-! ### how many are kept at the most -/
theorem row_len (h : BkPre B moves) {k : Nat} (hk : k < B.n) : (B.row k).length ≤ B.n - k := by
  have ro := h.row k hk
  have hl := nd_sub_len (m := (List.range (B.n - k)).map fun x => x + k) ro.nd fun x hx => by
    obtain ⟨p, hp, rfl⟩ := List.mem_map.mp hx
    obtain ⟨a1, a2, a3, _⟩ := ro.en p.1 p.2 hp
    have pp := h.mkP a1
    have hlt : p.1 < B.n := by rw [← a3]; exact pp.getD_lt hk
    have hge : k ≤ p.1 := by
      refine Decidable.byContradiction fun z => ?_
      have e1 : (B.mk' p.2).getD p.1 0 = p.1 := a2 p.1 (by omega)
      have e2 : (B.mk' p.2).getD k 0 = p.1 := a3
      have := nd_getD pp.nd (i := p.1) (j := k) (by rw [pp.len]; omega) (by rw [pp.len]; exact hk) (by rw [e1, e2])
      omega
    exact List.mem_map.mpr ⟨p.1 - k, List.mem_range.mpr (by omega), by omega⟩
  rw [List.length_map, List.length_map, List.length_range] at hl
  exact hl
theorem sum_tri : ∀ (rs : List (List (Nat × Nat))), (∀ k, k < rs.length → (rs.getD k []).length ≤ rs.length - k) → 2 * (rs.map List.length).sum ≤ rs.length * (rs.length + 1)
  | [], _ => Nat.zero_le _
  | r :: rs, h => by
    have h0 : r.length ≤ rs.length + 1 := h 0 (Nat.succ_pos _)
    have ih := sum_tri rs fun k hk => by
      have := h (k + 1) (by show k + 1 < rs.length + 1; omega)
      have e1 : (r :: rs).length - (k + 1) = rs.length - k := by show rs.length + 1 - (k + 1) = _; omega
      rw [e1] at this
      exact this
    show 2 * (r.length + (rs.map List.length).sum) ≤ (rs.length + 1) * (rs.length + 1 + 1)
    have e : (rs.length + 1) * (rs.length + 1 + 1) = rs.length * (rs.length + 1) + 2 * (rs.length + 1) := by
      rw [Nat.mul_add (rs.length + 1), Nat.mul_one, Nat.add_mul, Nat.one_mul]
      omega
    omega
theorem kept_le (h : BkPre B moves) : B.kept.length ≤ 120 := by
  have h1 := sum_tri B.rows fun k hk => by
    have := row_len h (k := k) (by rw [← h.rl]; exact hk)
    rw [h.rl]
    exact this
  have h2 := h.cnt
  have h3 := h.h2
  rw [← h2, h.rl] at h1
  -- n (n + 1) - 2 n <= 240
  have h4 : B.n * (B.n + 1) = B.n * (B.n - 1) + 2 * B.n := by
    have := h.h1
    obtain ⟨m, hm⟩ : ∃ m, B.n = m + 1 := ⟨B.n - 1, by omega⟩
    rw [hm, Nat.add_sub_cancel, Nat.mul_add (m + 1), Nat.mul_add (m + 1)]
    simp only [Nat.add_mul, Nat.one_mul, Nat.mul_one]
    omega
  have h5 : B.n * (B.n - 1) ≤ 16 * 15 := Nat.mul_le_mul h3 (by omega)
  omega
end
end Shf

/-! the book closed: mathematics alone -/
namespace Shf
open PySem L2
section
variable {B B' : Bk} {moves : List (List Nat)}
/-- a book that has grown out of another -/
structure Ext (B B' : Bk) : Prop where
  en : B'.n = B.n
  pm : B.made <+: B'.made
  pf : B.steps <+: B'.steps
  pk : B.kept <+: B'.kept
  rg : ∀ k j i, rowGet (B.row k) j = some i → rowGet (B'.row k) j = some i
theorem Ext.refl (B : Bk) : Ext B B := ⟨rfl, List.prefix_refl _, List.prefix_refl _, List.prefix_refl _, fun _ _ _ h => h⟩
theorem Ext.trans {B'' : Bk} (a : Ext B B') (b : Ext B' B'') : Ext B B'' := ⟨b.en.trans a.en, a.pm.trans b.pm, a.pf.trans b.pf, a.pk.trans b.pk, fun k j i h => b.rg k j i (a.rg k j i h)⟩
theorem prefix_getD {α : Type} {l m : List α} {d : α} (h : l <+: m) {i : Nat} (hi : i < l.length) : m.getD i d = l.getD i d := by
  obtain ⟨t, rfl⟩ := h
  rw [List.getD_eq_getElem?_getD, List.getElem?_append_left hi, ← List.getD_eq_getElem?_getD]
theorem Ext.mk_eq (e : Ext B B') {i : Nat} (hi : i < B.made.length) : B'.mk' i = B.mk' i := prefix_getD e.pm hi
theorem Ext.ml (e : Ext B B') : B.made.length ≤ B'.made.length := e.pm.length_le
/-- it goes back through the table to rest -/
def Sifts (B : Bk) (a : List Nat) : Prop := (B.sift a).1 = B.n
/-- as far as a sifting went, it goes the same way in a book grown out of it -/
theorem siftGo_ext (h : BkPre B moves) (e : Ext B B') : ∀ (f k : Nat) (left went : List Nat), k + f = B.n → (B.siftGo f k left went).1 = B.n → B'.siftGo f k left went = B.siftGo f k left went
  | 0, _, _, _, _, _ => rfl
  | f + 1, k, left, went, hk, hs => by
    unfold Bk.siftGo at hs ⊢
    cases c : rowGet (B.row k) (left.getD k 0) with
    | none =>
      rw [c] at hs
      have : k = B.n := hs
      omega
    | some i =>
      rw [c] at hs
      rw [e.rg k _ i c]
      have hi := ((h.row k (by omega)).en _ _ (rowGet_mem c)).1
      show B'.siftGo f (k + 1) (jn left (trn (B'.mk' i))) (went ++ [i]) = B.siftGo f (k + 1) (jn left (trn (B.mk' i))) (went ++ [i])
      rw [e.mk_eq hi]
      exact siftGo_ext h e f (k + 1) _ _ (by omega) hs
theorem Sifts.ext (h : BkPre B moves) (e : Ext B B') {a : List Nat} (s : Sifts B a) : Sifts B' a := by
  unfold Sifts Bk.sift at s ⊢
  rw [e.en, siftGo_ext h e B.n 0 a [] (by omega) s]
  exact s
/-- rest goes back from any place -/
theorem siftGo_id (h : BkPre B moves) : ∀ (f k : Nat) (went : List Nat), k + f = B.n → (B.siftGo f k (List.range B.n) went).1 = B.n
  | 0, k, went, hk => by show k = B.n; omega
  | f + 1, k, went, hk => by
    unfold Bk.siftGo
    rw [range_getD (by omega), rowGet_of (h.row k (by omega)).nd (h.row k (by omega)).hd]
    show (B.siftGo f (k + 1) (jn (List.range B.n) (trn (B.mk' 0))) (went ++ [0])).1 = B.n
    rw [h.mk0, trn_id]
    have e : jn (List.range B.n) (List.range B.n) = List.range B.n := by
      have := id_jn (List.range B.n)
      rw [List.length_range] at this
      exact this
    rw [e]
    exact siftGo_id h f (k + 1) _ (by omega)
theorem Sifts.id (h : BkPre B moves) : Sifts B (List.range B.n) := siftGo_id h B.n 0 [] (by omega)
/-- where a sifting stopped it goes on, once what is left is kept there -/
theorem siftGo_kept (h : BkPre B moves) (e : Ext B B') (h' : BkPre B' moves) {kk : Nat} {lf : List Nat} {i : Nat} (hi : i < B'.made.length) (hm : B'.mk' i = lf) (hg : rowGet (B'.row kk) (lf.getD kk 0) = some i) (hP : IsP B.n lf) :
    ∀ (f k : Nat) (left went : List Nat), k + f = B.n → (B.siftGo f k left went).1 = kk → kk < B.n → (B.siftGo f k left went).2.1 = lf → (B'.siftGo f k left went).1 = B.n
  | 0, k, left, went, hk, h1, h2, _ => by
    have : k = kk := h1
    omega
  | f + 1, k, left, went, hk, h1, h2, h3 => by
    unfold Bk.siftGo at h1 h3 ⊢
    cases c : rowGet (B.row k) (left.getD k 0) with
    | none =>
      rw [c] at h1 h3
      have e1 : k = kk := h1
      have e2 : left = lf := h3
      subst e1 e2
      rw [hg]
      show (B'.siftGo f (k + 1) (jn left (trn (B'.mk' i))) (went ++ [i])).1 = B.n
      rw [hm, jn_trn hP]
      have := siftGo_id h' f (k + 1) (went ++ [i]) (by rw [e.en]; omega)
      rw [e.en] at this
      exact this
    | some i' =>
      rw [c] at h1 h3
      rw [e.rg k _ i' c]
      have hi' := ((h.row k (by omega)).en _ _ (rowGet_mem c)).1
      show (B'.siftGo f (k + 1) (jn left (trn (B'.mk' i'))) (went ++ [i'])).1 = B.n
      rw [e.mk_eq hi']
      exact siftGo_kept h e h' hi hm hg hP f (k + 1) _ _ (by omega) h1 h2 h3
theorem rowGet_last {r : List (Nat × Nat)} {j i : Nat} (h : rowGet r j = none) : rowGet (r ++ [(j, i)]) j = some i := by
  unfold rowGet at h ⊢
  rw [Option.map_eq_none_iff] at h
  rw [List.find?_append, h, Option.none_or, List.find?_cons, decide_eq_true rfl] <;> rfl
/-- keeping: what it comes to -/
theorem keep_spec (h : BkPre B moves) {i k : Nat} (hi : i < B.made.length) {went : List Nat} (hw : ∀ o ∈ went, o < B.made.length) (hk : k < B.n) (hf : Fix k (leftOf B (B.mk' i) went)) (hn : rowGet (B.row k) ((leftOf B (B.mk' i) went).getD k 0) = none) :
    BkPre (B.keep i k went).1 moves ∧ Ext B (B.keep i k went).1 ∧ (B.keep i k went).1.kept = B.kept ++ [(B.keep i k went).2] ∧ (B.keep i k went).2 < (B.keep i k went).1.made.length ∧
    (B.keep i k went).1.mk' (B.keep i k went).2 = leftOf B (B.mk' i) went ∧ rowGet ((B.keep i k went).1.row k) ((leftOf B (B.mk' i) went).getD k 0) = some (B.keep i k went).2 ∧
    (B.keep i k went).1.steps.length ≤ B.steps.length + 2 * went.length := by
  have K := keepF_spec h hi hw
  unfold Bk.keep
  generalize B.keepF i went = s at K ⊢
  obtain ⟨B1, sg, i1⟩ := s
  obtain ⟨pre, en, er, ek, em, el, eg, pg, li, mi, st, pf, pm⟩ := K
  dsimp only at pre en er ek em el eg pg li mi st pf pm ⊢
  have erow : ∀ k', B1.row k' = B.row k' := fun k' => by unfold Bk.row; rw [er]
  subst eg
  have hk1 : k < B1.n := by rw [en]; exact hk
  have hn1 : rowGet (B1.row k) ((leftOf B (B.mk' i) went).getD k 0) = none := by rw [erow]; exact hn
  have P := setRow_pre pre hk1 li (by rw [mi]; exact hf) (by rw [mi]) hn1 (j := (leftOf B (B.mk' i) went).getD k 0)
  have rs : ∀ k', (B1.setRow k ((leftOf B (B.mk' i) went).getD k 0) i1).row k' = if k' = k then B1.row k ++ [((leftOf B (B.mk' i) went).getD k 0, i1)] else B1.row k' := fun k' => row_set (by rw [pre.rl]; exact hk1)
  refine ⟨P, ⟨en, pm, pf, ?_, fun k' j' i' hg => ?_⟩, ?_, li, mi, ?_, st⟩
  · show B.kept <+: B1.kept ++ [i1]
    rw [ek]
    exact List.prefix_append _ _
  · rw [rs]
    by_cases c : k' = k
    · rw [if_pos c]
      refine rowGet_snoc ?_
      rw [erow, ← c]
      exact hg
    · rw [if_neg c, erow]
      exact hg
  · show B1.kept ++ [i1] = _
    rw [ek]
  · rw [rs, if_pos rfl]
    exact rowGet_last hn1
/-- a step noted: the book has grown -/
theorem Ext.note (B : Bk) (s : Stp) (a : List Nat) : Ext B (B.note s a) := ⟨rfl, List.prefix_append _ _, List.prefix_append _ _, List.prefix_refl _, fun _ _ _ h => h⟩
theorem siftGo_note (B : Bk) (s : Stp) (a : List Nat) : ∀ (w : List Nat) (x : List Nat), (∀ o ∈ w, o < B.made.length) → leftOf (B.note s a) x w = leftOf B x w
  | [], x, _ => rfl
  | o :: w, x, h => by
    show leftOf (B.note s a) (jn x (trn ((B.note s a).mk' o))) w = leftOf B (jn x (trn (B.mk' o))) w
    rw [Bk.note_mk (h o List.mem_cons_self)]
    exact siftGo_note B s a w _ fun y hy => h y (List.mem_cons_of_mem _ hy)
/-- the book with the pair's own step -/
theorem closeMid (h : BkOk B moves) {p q : Nat} (hp : p < B.made.length) (hq : q < B.made.length) (hs : (B.sift (jn (B.mk' p) (B.mk' q))).1 < B.n) :
    ∃ (B1 : Bk) (i1 : Nat), B1 = (if q = 0 then B else B.note (.thn p q) (jn (B.mk' p) (B.mk' q))) ∧ i1 = (if q = 0 then p else B.steps.length) ∧ BkPre B1 moves ∧ Ext B B1 ∧ i1 < B1.made.length ∧ B1.mk' i1 = jn (B.mk' p) (B.mk' q) ∧
      B1.kept = B.kept ∧ (∀ k, B1.row k = B.row k) ∧ leftOf B1 (jn (B.mk' p) (B.mk' q)) (B.sift (jn (B.mk' p) (B.mk' q))).2.2 = (B.sift (jn (B.mk' p) (B.mk' q))).2.1 ∧ B1.steps.length ≤ B.steps.length + 1 := by
  have pp := h.mkP hp
  have pq := h.mkP hq
  have ps := isP_jn pp pq
  obtain ⟨g1, g2, g3, g4, g5, g6⟩ := sift_spec h ps
  have gl := sift_left B (jn (B.mk' p) (B.mk' q))
  by_cases c : q = 0
  · refine ⟨B, p, (if_pos c).symm, (if_pos c).symm, h.pre, Ext.refl B, hp, ?_, rfl, fun _ => rfl, gl.symm, Nat.le_succ _⟩
    rw [c, h.mk0, jn_id fun x hx => pp.lt hx]
  · refine ⟨B.note (.thn p q) (jn (B.mk' p) (B.mk' q)), B.steps.length, (if_neg c).symm, (if_neg c).symm, h.pre.note ps ⟨hp, hq, ?_⟩, Ext.note _ _ _, ?_, ?_, rfl, fun _ => rfl, ?_, ?_⟩
    · rw [List.getElem?_append_right (Nat.le_refl _), Nat.sub_self, getD_app hp, getD_app hq] <;> rfl
    · rw [Bk.note_len, h.len]; omega
    · rw [h.len]; exact Bk.note_last
    · rw [siftGo_note B _ _ _ _ g4]; exact gl.symm
    · show (B.steps ++ [_]).length ≤ _
      rw [List.length_append] <;> exact Nat.le_refl _
/-- one pair: what it comes to where it stops short -/
theorem closeStep_spec (h : BkOk B moves) {t : List (Nat × Nat)} {p q : Nat} {grew : Bool} (hp : p < B.made.length) (hq : q < B.made.length) (hs : (B.sift (jn (B.mk' p) (B.mk' q))).1 < B.n) :
    let r := B.closeStep t p q grew
    BkOk r.1 moves ∧ Ext B r.1 ∧ Sifts r.1 (jn (B.mk' p) (B.mk' q)) ∧ r.2.2 = true ∧ ∃ i, r.1.kept = B.kept ++ [i] ∧ i < r.1.made.length ∧ r.2.1 = t ++ Bk.prs i r.1.kept := by
  have pp := h.mkP hp
  have pq := h.mkP hq
  have ps := isP_jn pp pq
  obtain ⟨g1, g2, g3, g4, g5, g6⟩ := sift_spec h ps
  unfold Bk.closeStep
  rw [if_pos hs]
  obtain ⟨B1, i1, e1, e2, b1, x1, li, mi, k1, r1, l1, st1⟩ := closeMid h hp hq hs
  rw [← e1, ← e2]
  clear e1 e2
  have n1 : B1.n = B.n := x1.en
  have hk1 : (B.sift (jn (B.mk' p) (B.mk' q))).1 < B1.n := by rw [n1]; exact hs
  obtain ⟨K1, K2, K3, K4, K5, K6, K7⟩ := keep_spec b1 li (went := (B.sift (jn (B.mk' p) (B.mk' q))).2.2) (fun o ho => Nat.lt_of_lt_of_le (g4 o ho) x1.ml) hk1 (by rw [mi, l1]; exact g3) (by rw [mi, l1, r1]; exact g6 hs)
  rw [mi, l1] at K5 K6
  dsimp only
  refine ⟨K1.ok ?_, x1.trans K2, ?_, rfl, (B1.keep i1 _ _).2, by rw [K3, k1], K4, rfl⟩
  · rw [K3, List.length_append, k1]
    have a1 := h.stb
    have a2 : (B1.keep i1 (B.sift (jn (B.mk' p) (B.mk' q))).1 (B.sift (jn (B.mk' p) (B.mk' q))).2.2).1.n = B.n := by rw [K2.en, n1]
    rw [a2]
    rw [g5] at K7
    show _ ≤ 1 + moves.length + (B.kept.length + 1) * (2 * B.n)
    rw [Nat.add_mul, Nat.one_mul]
    omega
  · refine Eq.trans (siftGo_kept h.pre (x1.trans K2) K1 K4 K5 K6 g2 B.n 0 _ _ (by omega) rfl hs rfl |> fun z => ?_) (x1.trans K2).en.symm
    show (Bk.siftGo _ (B1.keep i1 _ _).1.n 0 _ _).1 = B.n
    rw [(x1.trans K2).en]
    exact z
/-- what holds while pairs are to do -/
structure CInv (moves : List (List Nat)) (B0 : Bk) (s : Bk × List (Nat × Nat) × Bool) : Prop where
  ok : BkOk s.1 moves
  ex : Ext B0 s.1
  td : ∀ pq ∈ s.2.1, pq.1 < s.1.made.length ∧ pq.2 < s.1.made.length
  cl : ∀ i ∈ s.1.kept, ∀ j ∈ s.1.kept, Sifts s.1 (jn (s.1.mk' i) (s.1.mk' j)) ∨ (i, j) ∈ s.2.1
  mv : ∀ m ∈ moves, Sifts s.1 m ∨ ∃ p, (p, 0) ∈ s.2.1 ∧ s.1.mk' p = m
  gr : s.2.2 = decide (B0.kept.length < s.1.kept.length)
  mu : (120 - s.1.kept.length) * 241 + s.2.1.length ≤ 28921
theorem prs_len (i : Nat) (ks : List Nat) : (Bk.prs i ks).length = 2 * ks.length := by
  unfold Bk.prs
  induction ks with
  | nil => rfl
  | cons k ks ih => rw [List.flatMap_cons, List.length_append, ih]; show 2 + 2 * ks.length = 2 * (ks.length + 1); omega
theorem prs_mem {i : Nat} {ks : List Nat} {pq : Nat × Nat} : pq ∈ Bk.prs i ks ↔ ∃ o ∈ ks, pq = (i, o) ∨ pq = (o, i) := by
  unfold Bk.prs
  rw [List.mem_flatMap]
  constructor
  · rintro ⟨o, ho, h⟩
    refine ⟨o, ho, ?_⟩
    rcases List.mem_cons.mp h with h | h
    · exact .inl h
    · exact .inr (List.mem_singleton.mp h)
  · rintro ⟨o, ho, h | h⟩
    · exact ⟨o, ho, by rw [h]; exact List.mem_cons_self⟩
    · exact ⟨o, ho, by rw [h]; exact List.mem_cons_of_mem _ (List.mem_singleton.mpr rfl)⟩
theorem kept_lt (h : BkPre B moves) : ∀ i ∈ B.kept, i < B.made.length := fun i hi => by
  obtain ⟨k, j, hk, m⟩ := h.kp i hi
  exact ((h.row k hk).en j i m).1
def muF (s : Bk × List (Nat × Nat) × Bool) : Nat := (120 - s.1.kept.length) * 241 + s.2.1.length
/-- one pair more is done -/
theorem CInv.step {B0 : Bk} {t : List (Nat × Nat)} {p q : Nat} {grew : Bool} (h : CInv moves B0 (B, t ++ [(p, q)], grew)) : CInv moves B0 (B.closeStep t p q grew) ∧ muF (B.closeStep t p q grew) < muF (B, t ++ [(p, q)], grew) := by
  obtain ⟨ok, ex, td, cl, mv, gr, hm⟩ := h
  dsimp only at ok ex td cl mv gr hm
  obtain ⟨hp, hq⟩ := td (p, q) (List.mem_append_right _ (List.mem_singleton.mpr rfl))
  have hp : p < B.made.length := hp
  have hq : q < B.made.length := hq
  have pp := ok.mkP hp
  have pq := ok.mkP hq
  have hl : (t ++ [(p, q)]).length = t.length + 1 := by rw [List.length_append] <;> rfl
  by_cases hs : (B.sift (jn (B.mk' p) (B.mk' q))).1 < B.n
  · obtain ⟨S1, S2, S3, S4, i, S5, S6, S7⟩ := closeStep_spec ok (t := t) (grew := grew) hp hq hs
    generalize B.closeStep t p q grew = r at S1 S2 S3 S4 S5 S6 S7 ⊢
    obtain ⟨B', t', g'⟩ := r
    dsimp only at S1 S2 S3 S4 S5 S6 S7 ⊢
    have kl := kept_le S1.pre
    have kl' : B'.kept.length = B.kept.length + 1 := by rw [S5, List.length_append] <;> rfl
    have tl' : t'.length = t.length + 2 * B'.kept.length := by rw [S7, List.length_append, prs_len]
    refine ⟨⟨S1, ex.trans S2, fun pq hpq => ?_, fun a ha b hb => ?_, fun m hm => ?_, ?_, ?_⟩, ?_⟩
    · have hpq : pq ∈ t ++ Bk.prs i B'.kept := by rw [← S7]; exact hpq
      rcases List.mem_append.mp hpq with hpq | hpq
      · obtain ⟨a, b⟩ := td pq (List.mem_append_left _ hpq)
        have := S2.ml
        exact ⟨by show pq.1 < B'.made.length; omega, by show pq.2 < B'.made.length; omega⟩
      · obtain ⟨o, ho, e | e⟩ := prs_mem.mp hpq
        · rw [e]; exact ⟨S6, kept_lt S1.pre o ho⟩
        · rw [e]; exact ⟨kept_lt S1.pre o ho, S6⟩
    · have ha : a ∈ B'.kept := ha
      have hb : b ∈ B'.kept := hb
      show Sifts B' _ ∨ (a, b) ∈ t'
      by_cases ca : a = i
      · right
        rw [S7]
        exact List.mem_append_right _ (prs_mem.mpr ⟨b, hb, .inl (by rw [ca])⟩)
      · by_cases cb : b = i
        · right
          rw [S7]
          exact List.mem_append_right _ (prs_mem.mpr ⟨a, ha, .inr (by rw [cb])⟩)
        · have ha0 : a ∈ B.kept := by rw [S5] at ha; exact (List.mem_append.mp ha).resolve_right fun z => ca (List.mem_singleton.mp z)
          have hb0 : b ∈ B.kept := by rw [S5] at hb; exact (List.mem_append.mp hb).resolve_right fun z => cb (List.mem_singleton.mp z)
          have ea := S2.mk_eq (kept_lt ok.pre a ha0)
          have eb := S2.mk_eq (kept_lt ok.pre b hb0)
          rw [ea, eb]
          rcases cl a ha0 b hb0 with c | c
          · exact .inl (c.ext ok.pre S2)
          · rcases List.mem_append.mp c with c | c
            · right; rw [S7]; exact List.mem_append_left _ c
            · have c := List.mem_singleton.mp c
              have c1 : a = p := congrArg Prod.fst c
              have c2 : b = q := congrArg Prod.snd c
              left
              rw [c1, c2]
              exact S3
    · rcases mv m hm with c | ⟨x, c, e⟩
      · exact .inl (c.ext ok.pre S2)
      · rcases List.mem_append.mp c with c | c
        · right
          refine ⟨x, by rw [S7]; exact List.mem_append_left _ c, ?_⟩
          rw [S2.mk_eq (td (x, 0) (List.mem_append_left _ c)).1]
          exact e
        · have c := List.mem_singleton.mp c
          have c1 : x = p := congrArg Prod.fst c
          have c2 : 0 = q := congrArg Prod.snd c
          left
          have : m = jn (B.mk' p) (B.mk' q) := by rw [← c2, ok.mk0, jn_id fun y hy => pp.lt hy, ← c1]; exact e.symm
          rw [this]
          exact S3
    · show g' = decide (B0.kept.length < B'.kept.length)
      have := ex.pk.length_le
      rw [S4, decide_eq_true (by omega)]
    · show (120 - B'.kept.length) * 241 + t'.length ≤ 28921
      rw [hl] at hm
      have e : 120 - B.kept.length = 120 - B'.kept.length + 1 := by omega
      rw [e, Nat.add_mul] at hm
      omega
    · show (120 - B'.kept.length) * 241 + t'.length < (120 - B.kept.length) * 241 + (t ++ [(p, q)]).length
      have e : 120 - B.kept.length = 120 - B'.kept.length + 1 := by omega
      rw [e, Nat.add_mul, hl]
      omega
  · have e : B.closeStep t p q grew = (B, t, grew) := by unfold Bk.closeStep; rw [if_neg hs]
    rw [e]
    have hsi : Sifts B (jn (B.mk' p) (B.mk' q)) := by
      have := (sift_spec ok (isP_jn pp pq)).1
      exact Nat.le_antisymm this (Nat.le_of_not_lt hs)
    refine ⟨⟨ok, ex, fun x hx => td x (List.mem_append_left _ hx), fun a ha b hb => ?_, fun m hm => ?_, gr, ?_⟩, ?_⟩
    · rcases cl a ha b hb with c | c
      · exact .inl c
      · rcases List.mem_append.mp c with c | c
        · exact .inr c
        · have c := List.mem_singleton.mp c
          have c1 : a = p := congrArg Prod.fst c
          have c2 : b = q := congrArg Prod.snd c
          left
          rw [c1, c2]
          exact hsi
    · rcases mv m hm with c | ⟨x, c, e⟩
      · exact .inl c
      · rcases List.mem_append.mp c with c | c
        · exact .inr ⟨x, c, e⟩
        · have c := List.mem_singleton.mp c
          have c1 : x = p := congrArg Prod.fst c
          have c2 : 0 = q := congrArg Prod.snd c
          left
          have : m = jn (B.mk' p) (B.mk' q) := by rw [← c2, ok.mk0, jn_id fun y hy => pp.lt hy, ← c1]; exact e.symm
          rw [this]
          exact hsi
    · show (120 - B.kept.length) * 241 + t.length ≤ 28921
      rw [hl] at hm
      omega
    · show (120 - B.kept.length) * 241 + t.length < (120 - B.kept.length) * 241 + (t ++ [(p, q)]).length
      rw [hl]
      omega
theorem snoc_of {α : Type} {l : List α} {x : α} (h : l.getLast? = some x) : l = l.dropLast ++ [x] := by
  cases l with
  | nil => cases h
  | cons a r =>
    rw [List.getLast?_eq_some_getLast (by simp)] at h
    rw [← Option.some.inj h]
    exact (List.dropLast_concat_getLast (by simp)).symm
theorem closeGo_spec {B0 : Bk} : ∀ (f : Nat) (s : Bk × List (Nat × Nat) × Bool), CInv moves B0 s → muF s ≤ f → CInv moves B0 (Bk.closeGo f s) ∧ (Bk.closeGo f s).2.1 = []
  | 0, s, h, hf => by
    have : s.2.1.length = 0 := by unfold muF at hf; omega
    exact ⟨h, List.length_eq_zero_iff.mp this⟩
  | f + 1, s, h, hf => by
    unfold Bk.closeGo
    cases c : s.2.1.getLast? with
    | none =>
      have : s.2.1 = [] := List.getLast?_eq_none_iff.mp c
      exact ⟨h, this⟩
    | some pq =>
      have e := snoc_of c
      have h' : CInv moves B0 (s.1, s.2.1.dropLast ++ [(pq.1, pq.2)], s.2.2) := by
        have : (s.1, s.2.1.dropLast ++ [(pq.1, pq.2)], s.2.2) = s := by rw [← e]
        rw [this]
        exact h
      obtain ⟨i1, i2⟩ := h'.step
      have i3 : muF (s.1, s.2.1.dropLast ++ [(pq.1, pq.2)], s.2.2) = muF s := by unfold muF; dsimp only; rw [← e]
      exact closeGo_spec f _ i1 (by omega)
/-- the table is closed: so it stands ahead of each putting in and behind it -/
structure Closed (B : Bk) (moves : List (List Nat)) : Prop where
  ok : BkOk B moves
  cl : ∀ i ∈ B.kept, ∀ j ∈ B.kept, Sifts B (jn (B.mk' i) (B.mk' j))
  mv : ∀ m ∈ moves, Sifts B m
theorem StpOk.more {n : Nat} {moves made : List (List Nat)} {i : Nat} {s : Stp} {m : List Nat} (h : StpOk n moves made i s) : StpOk n (moves ++ [m]) made i s := by
  cases s with
  | rest => exact h
  | move j =>
    obtain ⟨a, h1, h2⟩ := h
    exact ⟨a, by rw [List.getElem?_append_left (List.getElem?_eq_some_iff.mp h1).1]; exact h1, h2⟩
  | back j => exact h
  | thn j l => exact h
/-- a move is noted -/
theorem start_inv (h : Closed B moves) {m : List Nat} (hm : IsP B.n m) : CInv (moves ++ [m]) (B.note (.move moves.length) m) (B.note (.move moves.length) m, [(B.steps.length, 0)], false) := by
  have b0 : BkPre B (moves ++ [m]) := ⟨h.ok.h1, h.ok.h2, h.ok.len, h.ok.m0, h.ok.mp, fun i s hs => (h.ok.val i s hs).more, h.ok.rl, h.ok.row, h.ok.kp, h.ok.cnt⟩
  have b1 : BkPre (B.note (.move moves.length) m) (moves ++ [m]) := b0.note hm ⟨m, by
    rw [List.getElem?_append_right (Nat.le_refl _), Nat.sub_self] <;> rfl, by
    rw [List.getElem?_append_right (Nat.le_refl _), Nat.sub_self] <;> rfl⟩
  have hl := h.ok.len
  have x := Ext.note B (.move moves.length) m
  refine ⟨b1.ok ?_, Ext.refl _, fun pq hpq => ?_, fun i hi j hj => ?_, fun a ha => ?_, ?_, ?_⟩
  · show (B.steps ++ [_]).length ≤ 1 + (moves ++ [m]).length + B.kept.length * (2 * B.n)
    rw [List.length_append, List.length_append]
    have := h.ok.stb
    show B.steps.length + 1 ≤ 1 + (moves.length + 1) + B.kept.length * (2 * B.n)
    omega
  · rw [List.mem_singleton.mp hpq]
    refine ⟨?_, ?_⟩
    · show B.steps.length < (B.note _ _).made.length
      rw [Bk.note_len, hl]; omega
    · show 0 < (B.note _ _).made.length
      rw [Bk.note_len]; omega
  · left
    have hi : i ∈ B.kept := hi
    have hj : j ∈ B.kept := hj
    show Sifts (B.note _ _) (jn ((B.note _ _).mk' i) ((B.note _ _).mk' j))
    rw [x.mk_eq (kept_lt h.ok.pre i hi), x.mk_eq (kept_lt h.ok.pre j hj)]
    exact (h.cl i hi j hj).ext h.ok.pre x
  · rcases List.mem_append.mp ha with ha | ha
    · exact .inl ((h.mv a ha).ext h.ok.pre x)
    · right
      refine ⟨B.steps.length, List.mem_singleton.mpr rfl, ?_⟩
      rw [List.mem_singleton.mp ha]
      show (B.note _ _).mk' B.steps.length = m
      rw [hl]
      exact Bk.note_last
  · show false = decide (B.kept.length < B.kept.length)
    rw [decide_eq_false (Nat.lt_irrefl _)]
  · show (120 - B.kept.length) * 241 + 1 ≤ 28921
    omega
/-- a move put in: the book is closed again -/
def Bk.putMove (B : Bk) (j : Nat) (m : List Nat) : Bk × Bool := (B.note (.move j) m).close B.steps.length
theorem putMove_spec (h : Closed B moves) {m : List Nat} (hm : IsP B.n m) :
    Closed (B.putMove moves.length m).1 (moves ++ [m]) ∧ Ext B (B.putMove moves.length m).1 ∧ (B.putMove moves.length m).2 = decide (B.kept.length < (B.putMove moves.length m).1.kept.length) := by
  have I := start_inv h hm
  obtain ⟨J, e⟩ := closeGo_spec 40000 _ I (by
    have := I.mu
    show (120 - _) * 241 + _ ≤ 40000
    exact Nat.le_trans this (by decide))
  unfold Bk.putMove Bk.close
  generalize Bk.closeGo 40000 (B.note (.move moves.length) m, [(B.steps.length, 0)], false) = r at J e ⊢
  obtain ⟨B', t', g'⟩ := r
  dsimp only at e ⊢
  subst e
  refine ⟨⟨J.ok, fun i hi j hj => (J.cl i hi j hj).resolve_right fun z => (by cases z), fun a ha => (J.mv a ha).resolve_right fun ⟨p, z, _⟩ => by cases z⟩, (Ext.note B _ m).trans J.ex, J.gr⟩
theorem sum_ones : ∀ (l : List Nat), ((l.map fun k => [(k, 0)]).map List.length).sum = l.length
  | [] => rfl
  | x :: l => by
    show 1 + ((l.map fun k => [(k, 0)]).map List.length).sum = l.length + 1
    rw [sum_ones l]; omega
theorem new_ok {n : Nat} (h1 : 1 ≤ n) (h2 : n ≤ 16) : BkOk (Bk.new n) [] where
  h1 := h1
  h2 := h2
  len := rfl
  m0 := rfl
  mp := fun a ha => by rw [List.mem_singleton.mp ha]; exact isP_id n
  val := fun i s hs => by
    cases i with
    | zero => cases hs; exact rfl
    | succ i => cases hs
  rl := by show ((List.range n).map _).length = n; rw [List.length_map, List.length_range]
  row := fun k hk => by
    have hk : k < n := hk
    have e : (Bk.new n).row k = [(k, 0)] := by
      unfold Bk.row Bk.new
      rw [List.getD_eq_getElem?_getD, List.getElem?_map, List.getElem?_range hk] <;> rfl
    rw [e]
    refine ⟨by simp, List.mem_singleton.mpr rfl, fun j i m => ?_⟩
    have m := List.mem_singleton.mp m
    have e1 : j = k := congrArg Prod.fst m
    have e2 : i = 0 := congrArg Prod.snd m
    subst e1 e2
    exact ⟨Nat.zero_lt_one, fix_id n j (Nat.le_of_lt hk), range_getD hk, .inl rfl⟩
  kp := fun i hi => by cases hi
  cnt := by
    show 0 + n = (((List.range n).map fun k => [(k, 0)]).map List.length).sum
    rw [sum_ones, List.length_range, Nat.zero_add]
  stb := Nat.le_add_right 1 _
theorem new_closed {n : Nat} (h1 : 1 ≤ n) (h2 : n ≤ 16) : Closed (Bk.new n) [] := ⟨new_ok h1 h2, fun i hi => (List.not_mem_nil hi).elim, fun m hm => (List.not_mem_nil hm).elim⟩
end
end Shf

/-! rooms and books as they lie in memory -/
namespace Shf
open PySem L2
section
variable {α : Type} {f : α → List V} {H H' : Hp}
def Tu (H H' : Hp) : Prop := ∀ p xs, H p = some (.tup xs) → H' p = some (.tup xs)
/-- a list of tuples, each by its form -/
inductive LG (f : α → List V) (H : Hp) : List V → List α → Prop
  | nil : LG f H [] []
  | cons {p : Addr} {a : α} {vs : List V} {as : List α} : H p = some (.tup (f a)) → LG f H vs as → LG f H (.ref p :: vs) (a :: as)
theorem LG.tu (s : Tu H H') {vs : List V} {as : List α} (h : LG f H vs as) : LG f H' vs as := by
  induction h with
  | nil => exact .nil
  | cons h _ ih => exact .cons (s _ _ h) ih
theorem LG.snoc {p : Addr} {a : α} (hp : H p = some (.tup (f a))) {vs : List V} {as : List α} (h : LG f H vs as) : LG f H (vs ++ [.ref p]) (as ++ [a]) := by
  induction h with
  | nil => exact .cons hp .nil
  | cons h _ ih => exact .cons h ih
theorem LG.len {vs : List V} {as : List α} (h : LG f H vs as) : vs.length = as.length := by
  induction h with
  | nil => rfl
  | cons _ _ ih => simp [ih]
theorem LG.get {vs : List V} {as : List α} (h : LG f H vs as) : ∀ {i : Nat} {a : α}, as[i]? = some a → ∃ p, vs[i]? = some (.ref p) ∧ H p = some (.tup (f a)) := by
  induction h with
  | nil => intro i a e; simp at e
  | cons h _ ih =>
    intro i a e
    cases i with
    | zero => cases e; exact ⟨_, rfl, h⟩
    | succ i => exact ih (by simpa using e)
theorem LG.get' {vs : List V} {as : List α} (h : LG f H vs as) : ∀ {i : Nat} {v : V}, vs[i]? = some v → ∃ p a, v = .ref p ∧ as[i]? = some a ∧ H p = some (.tup (f a)) := by
  induction h with
  | nil => intro i a e; simp at e
  | cons h _ ih =>
    intro i a e
    cases i with
    | zero => cases e; exact ⟨_, _, rfl, rfl, h⟩
    | succ i => exact ih (by simpa using e)
theorem LG.last : ∀ {as : List α} {a : α} {vs : List V}, LG f H vs (as ++ [a]) → ∃ vs' q, vs = vs' ++ [V.ref q] ∧ LG f H vs' as ∧ H q = some (.tup (f a))
  | [], a, vs, h => by
    cases h with
    | cons h h' => cases h'; exact ⟨[], _, rfl, .nil, h⟩
  | b :: as, a, vs, h => by
    cases h with
    | cons h h' =>
      obtain ⟨vs', q, e, h1, h2⟩ := LG.last h'
      exact ⟨_ :: vs', q, by rw [e] <;> rfl, .cons h h1, h2⟩
theorem LG.lt {vs : List V} {as : List (List Nat)} (h : LG vN H vs as) : LT H vs as := by
  induction h with
  | nil => exact .nil
  | cons h _ ih => exact .cons h ih
theorem LT.lg {vs : List V} {as : List (List Nat)} (h : LT H vs as) : LG vN H vs as := by
  induction h with
  | nil => exact .nil
  | cons h _ ih => exact .cons h ih
theorem LT.tu (s : Tu H H') {vs : List V} {as : List (List Nat)} (h : LT H vs as) : LT H' vs as := (h.lg.tu s).lt
theorem _root_.L2.Same.tu (s : Same H H') : Tu H H' := fun p xs h => s p _ h
theorem Tu.trans {H2 : Hp} (a : Tu H H') (b : Tu H' H2) : Tu H H2 := fun p xs h => b p xs (a p xs h)
/-- all stands but what lies at some places -/
structure But (F : List Addr) (H H' : Hp) : Prop where
  s : ∀ a u, H a = some u → a ∉ F → H' a = some u
  t : Tu H H'
  f : ∀ a, H' a = none → H a = none
variable {F G : List Addr} {H1 : Hp}
theorem But.refl (F : List Addr) (H : Hp) : But F H H := ⟨fun _ _ h _ => h, fun _ _ h => h, fun _ h => h⟩
theorem But.of (s : Same H H') : But F H H' := ⟨fun a u h _ => s a u h, s.tu, fun _ h => s.free h⟩
theorem But.trans (a : But F H H') (b : But F H' H1) : But F H H1 := ⟨fun x u h n => b.s x u (a.s x u h n) n, a.t.trans b.t, fun x h => a.f x (b.f x h)⟩
theorem But.sub (h : ∀ a ∈ F, a ∈ G) (b : But F H H') : But G H H' := ⟨fun a u e n => b.s a u e fun z => n (h a z), b.t, b.f⟩
theorem But.new {p : Addr} {o : HO} (b : But F H H') (h : H' p = none) : But F H (upd H' p o) := b.trans (.of ((Same.refl H').new h))
theorem But.up {l : Addr} {o o0 : HO} (b : But F H H') (hl : H' l = some o0) (ht : ∀ xs, o0 ≠ .tup xs) (hf : l ∈ F) : But F H (upd H' l o) :=
  b.trans ⟨fun a u h n => by rw [upd_ne fun z => n (by rw [z]; exact hf)]; exact h, fun p xs h => by rw [upd_ne (ne_of h hl fun z => ht xs z.symm)]; exact h, fun a h => by
    by_cases e : a = l
    · rw [e, upd_same] at h; cases h
    · rw [upd_ne e] at h; exact h⟩
/-- of one's own, made since: it may change -/
theorem But.own {l : Addr} {o o0 : HO} (b : But F H H') (hl : H' l = some o0) (h0 : H l = none) : But F H (upd H' l o) :=
  ⟨fun a u h n => by rw [upd_ne (ne_of_none h h0)]; exact b.s a u h n, fun p xs h => by rw [upd_ne (ne_of_none h h0)]; exact b.t p xs h, fun a h => by
    by_cases e : a = l
    · rw [e, upd_same] at h; cases h
    · rw [upd_ne e] at h; exact b.f a h⟩
theorem But.some {a : Addr} {u : HO} (b : But F H H') (h : H a = Option.some u) : ∃ u', H' a = Option.some u' := by
  cases e : H' a with
  | none => rw [b.f a e] at h; cases h
  | some u' => exact ⟨u', rfl⟩
theorem But.same (b : But [] H H') : Same H H' := fun a u h => b.s a u h (fun z => by cases z)
/-- what stood at the start stands, as long as only newer things change -/
theorem _root_.L2.Same.past {H0 : Hp} (s : Same H0 H) (b : But F H H') (n : ∀ a ∈ F, H0 a = none) : Same H0 H' := fun a u e => b.s a u (s a u e) fun z => by
  rw [n a z] at e; cases e
theorem _root_.L2.Same.but (s : Same H H') : But F H H' := .of s
theorem But.tup {K : PySem.W.Frag} {a : Addr} {xs : List V} (b : But F H H') (h : H a = Option.some (.tup xs)) : SqT K H' a xs := sqT (b.t a xs h)
end
def stpV : Stp → List V
  | .rest => [.str "rest"]
  | .move i => [.str "move", .int (i : Int)]
  | .back i => [.str "back", .int (i : Int)]
  | .thn i j => [.str "then", .int (i : Int), .int (j : Int)]
def rowV (r : List (Nat × Nat)) : List (Key × V) := r.map fun p => ((Sum.inl (p.1 : Int) : Key), V.int (p.2 : Int))
theorem rowV_len (r : List (Nat × Nat)) : (rowV r).length = r.length := List.length_map ..
theorem rowV_get (j : Nat) : ∀ r : List (Nat × Nat), valV (rowV r) (Sum.inl (j : Int) : Key) = (rowGet r j).map fun (i : Nat) => V.int (i : Int)
  | [] => rfl
  | p :: r => by
    show valV (((Sum.inl (p.1 : Int) : Key), V.int (p.2 : Int)) :: rowV r) _ = _
    unfold rowGet
    rw [List.find?_cons]
    by_cases e : p.1 = j
    · rw [valV_pos (by show (Sum.inl (p.1 : Int) : Key) = _; rw [e]), decide_eq_true e] <;> rfl
    · rw [valV_neg (fun z => e (by have := Sum.inl.inj z; omega)), decide_eq_false e, rowV_get j r] <;> rfl
theorem rowV_put {r : List (Nat × Nat)} {j i : Nat} (h : rowGet r j = none) : putK (rowV r) (Sum.inl (j : Int) : Key) (V.int (i : Int)) = rowV (r ++ [(j, i)]) := by
  unfold putK
  rw [valV_any, rowV_get, h, if_neg (by simp)]
  unfold rowV
  rw [List.map_append] <;> rfl
/-- where a book lies -/
structure Ad where
  b : Addr
  ls : Addr
  lm : Addr
  lr : Addr
  lk : Addr
  ds : List Addr
def Ad.F (A : Ad) : List Addr := A.ls :: A.lm :: A.lk :: A.ds
def Ad.G (A : Ad) : List Addr := A.b :: A.ls :: A.lm :: A.lr :: A.lk :: A.ds
theorem Ad.fg (A : Ad) : ∀ a ∈ A.F, a ∈ A.G := fun a h => by
  unfold Ad.F at h
  unfold Ad.G
  simp only [List.mem_cons] at h ⊢
  rcases h with h | h | h | h <;> simp [h]
def bkF (A : Ad) (n : Nat) : List (Str × V) := [("size", .int (n : Int)), ("steps", .ref A.ls), ("made", .ref A.lm), ("rows", .ref A.lr), ("kept", .ref A.lk)]
structure BookAt (g : Gd) (H : Hp) (A : Ad) (B : Bk) : Prop where
  ob : ∃ dx, H A.b = some (.ins g.Book dx (bkF A B.n))
  st : ∃ vs, H A.ls = some (.lst vs) ∧ LG stpV H vs B.steps
  md : ∃ vs, H A.lm = some (.lst vs) ∧ LT H vs B.made
  rw : H A.lr = some (.lst (A.ds.map V.ref))
  dl : A.ds.length = B.n
  ro : ∀ k d, A.ds[k]? = some d → H d = some (.dK (rowV (B.row k)))
  kp : H A.lk = some (.lst (vN B.kept))
  nd : [A.ls, A.lm, A.lr, A.lk].Nodup
  nr : A.ds.Nodup
section
variable {g : Gd} {H H' : Hp} {A : Ad} {B : Bk} {K : PySem.W.Frag} {Q : VK}
theorem BookAt.fr (h : BookAt g H A B) (e : ∀ a u, H a = some u → a ∈ A.G ∨ (∃ xs, u = .tup xs) → H' a = some u) : BookAt g H' A B := by
  obtain ⟨⟨dx, ob⟩, ⟨vs, st, lst⟩, ⟨ms, md, lmd⟩, rw, dl, ro, kp, nd, nr⟩ := h
  have m : ∀ a ∈ A.ds, a ∈ A.G := fun a ha => by unfold Ad.G; simp [ha]
  have tu : Tu H H' := fun p xs hp => e p _ hp (.inr ⟨xs, rfl⟩)
  refine ⟨⟨dx, e _ _ ob (.inl (by simp [Ad.G]))⟩, ⟨vs, e _ _ st (.inl (by simp [Ad.G])), lst.tu tu⟩, ⟨ms, e _ _ md (.inl (by simp [Ad.G])), lmd.tu tu⟩, e _ _ rw (.inl (by simp [Ad.G])), dl, fun k d hd => ?_, e _ _ kp (.inl (by simp [Ad.G])), nd, nr⟩
  exact e _ _ (ro k d hd) (.inl (m d (List.mem_of_getElem? hd)))
theorem BookAt.same (h : BookAt g H A B) (s : Same H H') : BookAt g H' A B := h.fr fun a u e _ => s a u e
theorem BookAt.but {F : List Addr} (h : BookAt g H A B) (b : But F H H') (d : ∀ a ∈ A.G, a ∉ F) : BookAt g H' A B := h.fr fun a u e c => by
  rcases c with c | ⟨xs, rfl⟩
  · exact b.s a u e (d a c)
  · exact b.t a xs e
/-- what a book changes is no tuple and no instance -/
theorem BookAt.nt (h : BookAt g H A B) {a : Addr} (ha : a ∈ A.F) : ∃ o, H a = some o ∧ (∀ xs, o ≠ .tup xs) ∧ (∀ C dx fs, o ≠ .ins C dx fs) := by
  obtain ⟨_, ⟨vs, st, _⟩, ⟨ms, md, _⟩, _, _, ro, kp, _, _⟩ := h
  unfold Ad.F at ha
  simp only [List.mem_cons] at ha
  rcases ha with rfl | rfl | rfl | ha
  · exact ⟨_, st, fun _ z => (by cases z), fun _ _ _ z => (by cases z)⟩
  · exact ⟨_, md, fun _ z => (by cases z), fun _ _ _ z => (by cases z)⟩
  · exact ⟨_, kp, fun _ z => (by cases z), fun _ _ _ z => (by cases z)⟩
  · obtain ⟨k, hk, e⟩ := List.getElem_of_mem ha
    have := ro k a (by rw [List.getElem?_eq_getElem hk, e])
    exact ⟨_, this, fun _ z => (by cases z), fun _ _ _ z => (by cases z)⟩
theorem BookAt.full (h : BookAt g H A B) {a : Addr} (ha : a ∈ A.G) : ∃ u, H a = some u := by
  have hF := fun z : a ∈ A.F => h.nt z
  obtain ⟨⟨dx, ob⟩, _, _, rw, _, _, _, _, _⟩ := h
  by_cases c : a ∈ A.F
  · obtain ⟨o, e, _⟩ := hF c; exact ⟨o, e⟩
  · unfold Ad.G at ha
    unfold Ad.F at c
    simp only [List.mem_cons, not_or] at ha c
    rcases ha with rfl | z | z | rfl | z | z
    · exact ⟨_, ob⟩
    · exact absurd z c.1
    · exact absurd z c.2.1
    · exact ⟨_, rw⟩
    · exact absurd z c.2.2.1
    · exact absurd z c.2.2.2
/-! ### its fields -/
theorem BookAt.f_size (h : BookAt g H A B) (c : BkC K g) (q : Q (.int (B.n : Int)) H) : rFld K "size" (.ref A.b) H Q := by
  obtain ⟨dx, e⟩ := h.ob
  exact ⟨_, _, dx, _, _, rfl, e, c.cl, c.size, rfl, q⟩
theorem BookAt.f_steps (h : BookAt g H A B) (c : BkC K g) (q : Q (.ref A.ls) H) : rFld K "steps" (.ref A.b) H Q := by
  obtain ⟨dx, e⟩ := h.ob
  exact ⟨_, _, dx, _, _, rfl, e, c.cl, c.steps, rfl, q⟩
theorem BookAt.f_made (h : BookAt g H A B) (c : BkC K g) (q : Q (.ref A.lm) H) : rFld K "made" (.ref A.b) H Q := by
  obtain ⟨dx, e⟩ := h.ob
  exact ⟨_, _, dx, _, _, rfl, e, c.cl, c.made, rfl, q⟩
theorem BookAt.f_rows (h : BookAt g H A B) (c : BkC K g) (q : Q (.ref A.lr) H) : rFld K "rows" (.ref A.b) H Q := by
  obtain ⟨dx, e⟩ := h.ob
  exact ⟨_, _, dx, _, _, rfl, e, c.cl, c.rows, rfl, q⟩
theorem BookAt.f_kept (h : BookAt g H A B) (c : BkC K g) (q : Q (.ref A.lk) H) : rFld K "kept" (.ref A.b) H Q := by
  obtain ⟨dx, e⟩ := h.ob
  exact ⟨_, _, dx, _, _, rfl, e, c.cl, c.kept, rfl, q⟩
theorem BookAt.inst (h : BookAt g H A B) {m : Str} {R : Prop} (hm : (bkF A B.n).lookup m = none) (q : R) : ∃ a dx fs, V.ref A.b = .ref a ∧ H a = some (.ins g.Book dx fs) ∧ fs.lookup m = none ∧ R := by
  obtain ⟨dx, e⟩ := h.ob
  exact ⟨_, dx, _, rfl, e, hm, q⟩
theorem BookAt.made_get (h : BookAt g H A B) {i : Nat} (hi : i < B.made.length) : ∃ vs q, H A.lm = some (.lst vs) ∧ vs[i]? = some (.ref q) ∧ H q = some (.tup (vN (B.mk' i))) := by
  obtain ⟨vs, e, l⟩ := h.md
  have : B.made[i]? = some (B.mk' i) := by unfold Bk.mk'; rw [List.getD_eq_getElem?_getD, List.getElem?_eq_getElem hi] <;> rfl
  obtain ⟨q, h1, h2⟩ := l.get this
  exact ⟨vs, q, e, h1, h2⟩
/-- made[i] -/
theorem BookAt.ix_made (h : BookAt g H A B) {z : Int} {i : Nat} (hi : i < B.made.length) (e : z = (i : Int)) (q : ∀ p, H p = some (.tup (vN (B.mk' i))) → Q (.ref p) H) : rIxL K (.ref A.lm) (.int z) H Q := by
  obtain ⟨vs, p, h1, h2, h3⟩ := h.made_get hi
  exact ix_L (sqL h1) h2 e (q p h3)
theorem BookAt.ix_rows (h : BookAt g H A B) {z : Int} {k : Nat} (hk : k < B.n) (e : z = (k : Int)) (q : ∀ d, A.ds[k]? = some d → H d = some (.dK (rowV (B.row k))) → Q (.ref d) H) : rIxL K (.ref A.lr) (.int z) H Q := by
  have hk' : k < A.ds.length := by rw [h.dl]; exact hk
  have e1 : A.ds[k]? = some A.ds[k] := List.getElem?_eq_getElem hk'
  exact ix_L (sqL h.rw) (by rw [List.getElem?_map, e1] <;> rfl) e (q _ e1 (h.ro k _ e1))
/-- a step is noted -/
theorem BookAt.noted (h : BookAt g H A B) {vs ms : List V} {p q : Addr} {s : Stp} {a : List Nat} (hv : H A.ls = some (.lst vs)) (hm : H A.lm = some (.lst ms)) (hp : H p = some (.tup (stpV s))) (hq : H q = some (.tup (vN a))) :
    BookAt g (upd (upd H A.ls (.lst (vs ++ [.ref p]))) A.lm (.lst (ms ++ [.ref q]))) A (B.note s a) ∧ But A.F H (upd (upd H A.ls (.lst (vs ++ [.ref p]))) A.lm (.lst (ms ++ [.ref q]))) := by
  obtain ⟨⟨dx, ob⟩, ⟨vs', st, lst⟩, ⟨ms', md, lmd⟩, rw, dl, ro, kp, nd, nr⟩ := h
  cases (hv.symm.trans st)
  cases (hm.symm.trans md)
  have n1 : A.ls ≠ A.lm := fun z => by rw [z] at nd; simp at nd
  have n2 : A.lr ≠ A.ls := fun z => by rw [z] at nd; simp at nd
  have n3 : A.lr ≠ A.lm := fun z => by rw [z] at nd; simp at nd
  have n4 : A.lk ≠ A.ls := fun z => by rw [z] at nd; simp at nd
  have n5 : A.lk ≠ A.lm := fun z => by rw [z] at nd; simp at nd
  have b1 : But A.F H (upd H A.ls (.lst (vs ++ [.ref p]))) := (But.refl A.F H).up st (fun _ z => by cases z) (by simp [Ad.F])
  have b2 : But A.F H (upd (upd H A.ls (.lst (vs ++ [.ref p]))) A.lm (.lst (ms ++ [.ref q]))) := b1.up (o0 := .lst ms) (by rw [upd_ne n1.symm]; exact md) (fun _ z => by cases z) (by simp [Ad.F])
  refine ⟨⟨⟨dx, ?_⟩, ⟨_, by rw [upd_ne n1]; exact upd_same, (lst.tu b2.t).snoc (b2.t _ _ hp)⟩, ⟨_, upd_same, (lmd.tu b2.t).snoc (b2.t _ _ hq)⟩, ?_, dl, fun k d hd => ?_, ?_, nd, nr⟩, b2⟩
  · rw [upd_ne (ne_of ob md fun z => by cases z), upd_ne (ne_of ob st fun z => by cases z)]; exact ob
  · rw [upd_ne n3, upd_ne n2]; exact rw
  · have := ro k d hd
    rw [upd_ne (ne_of this md fun z => by cases z), upd_ne (ne_of this st fun z => by cases z)]; exact this
  · rw [upd_ne n5, upd_ne n4]; exact kp
/-- an entry of the table is made -/
theorem BookAt.rowed (h : BookAt g H A B) {k j i : Nat} {d : Addr} (hk : k < B.n) (hrl : B.rows.length = B.n) (hd : A.ds[k]? = some d) (hn : rowGet (B.row k) j = none) :
    BookAt g (upd (upd H d (.dK (putK (rowV (B.row k)) (Sum.inl (j : Int) : Key) (V.int (i : Int))))) A.lk (.lst (vN (B.kept ++ [i])))) A (B.setRow k j i) ∧
    But A.F H (upd (upd H d (.dK (putK (rowV (B.row k)) (Sum.inl (j : Int) : Key) (V.int (i : Int))))) A.lk (.lst (vN (B.kept ++ [i])))) := by
  obtain ⟨⟨dx, ob⟩, ⟨vs, st, lst⟩, ⟨ms, md, lmd⟩, rw, dl, ro, kp, nd, nr⟩ := h
  have hd0 := ro k d hd
  rw [rowV_put hn]
  have n1 : A.ls ≠ A.lk := fun z => by rw [z] at nd; simp at nd
  have n2 : A.lm ≠ A.lk := fun z => by rw [z] at nd; simp at nd
  have n3 : A.lr ≠ A.lk := fun z => by rw [z] at nd; simp at nd
  have b1 : But A.F H (upd H d (.dK (rowV (B.row k ++ [(j, i)])))) := (But.refl A.F H).up hd0 (fun _ z => by cases z) (by unfold Ad.F; simp [List.mem_of_getElem? hd])
  have b2 : But A.F H (upd (upd H d (.dK (rowV (B.row k ++ [(j, i)])))) A.lk (.lst (vN (B.kept ++ [i])))) := b1.up (o0 := .lst (vN B.kept)) (by rw [upd_ne (ne_of kp hd0 fun z => by cases z)]; exact kp) (fun _ z => by cases z) (by simp [Ad.F])
  refine ⟨⟨⟨dx, ?_⟩, ⟨vs, ?_, lst.tu b2.t⟩, ⟨ms, ?_, lmd.tu b2.t⟩, ?_, dl, fun k' d' hd' => ?_, upd_same, nd, nr⟩, b2⟩
  · rw [upd_ne (ne_of ob kp fun z => by cases z), upd_ne (ne_of ob hd0 fun z => by cases z)]; exact ob
  · rw [upd_ne n1, upd_ne (ne_of st hd0 fun z => by cases z)]; exact st
  · rw [upd_ne n2, upd_ne (ne_of md hd0 fun z => by cases z)]; exact md
  · rw [upd_ne n3, upd_ne (ne_of rw hd0 fun z => by cases z)]; exact rw
  · have h1 := ro k' d' hd'
    rw [upd_ne (ne_of h1 kp fun z => by cases z)]
    have er : (B.setRow k j i).row k' = if k' = k then B.row k ++ [(j, i)] else B.row k' := row_set (by rw [hrl]; exact hk)
    rw [er]
    by_cases c : k' = k
    · subst c
      rw [hd] at hd'
      cases hd'
      rw [if_pos rfl]
      exact upd_same
    · rw [if_neg c, upd_ne fun z => c ?_]
      · exact h1
      · subst z
        have e1 := List.getElem?_eq_some_iff.mp hd
        have e2 := List.getElem?_eq_some_iff.mp hd'
        obtain ⟨l1, e1⟩ := e1
        obtain ⟨l2, e2⟩ := e2
        have pw := List.pairwise_iff_getElem.mp nr
        rcases Nat.lt_trichotomy k' k with z | z | z
        · exact absurd (e2.trans e1.symm) (pw _ _ l2 l1 z)
        · exact z
        · exact absurd (e1.trans e2.symm) (pw _ _ l1 l2 z)
end
def sp_Book_note (K : PySem.W.Frag) (g : Gd) : Sp := fun vs H Q _ => ∃ (A : Ad) (B : Bk) (s : Stp) (a : List Nat) (p q : Addr), vs = [.ref A.b, .ref p, .ref q] ∧ BookAt g H A B ∧ H p = some (.tup (stpV s)) ∧ H q = some (.tup (vN a)) ∧
  B.steps.length < 90000 ∧ B.made.length < 90000 ∧ ∀ H', BookAt g H' A (B.note s a) → But A.F H H' → Q (.int (B.steps.length : Int)) H'
theorem len_Book_note (K : PySem.W.Frag) (g : Gd) (vs : List V) (H : Hp) (Q : VK) (E : XK) (h : sp_Book_note K g vs H Q E) : vs.length = 3 := by obtain ⟨_, _, _, _, _, _, rfl, _⟩ := h; rfl
--@facts Book.note r_Book
abbrev N_Book_note : List Str := ["self", "step", "seating"]
/-- Book.note -/
def t_Book_note (K : PySem.W.Frag) (g : Gd) (E : XK) : TS :=
  (tSeq (tDrop (tBM K "list" rAppend (tFld K (tVar 0) "steps") (tCons (tVar 1) tNil)))
    (tSeq (tDrop (tBM K "list" rAppend (tFld K (tVar 0) "made") (tCons (tVar 2) tNil)))
    (tRet (tOp rSubI (tCB (rLenQ K) (tCons (tFld K (tVar 0) "steps") tNil)) (tC (.int 1))))))
theorem pure_Book_note {K : PySem.W.Frag} {g : Gd} (cB : BkC K g) (vs : List V) (H : Hp) (Q : VK) (E : XK) (h : sp_Book_note K g vs H Q E) : Rd1 (t_Book_note K g E) N_Book_note vs H Q := by
  obtain ⟨A, B, s, a, p, q, rfl, hB, hp, hq, l1, l2, k⟩ := h
  obtain ⟨vs, hv, hvl⟩ := hB.st
  obtain ⟨ms, hm, hml⟩ := hB.md
  have N := hB.noted hv hm hp hq
  obtain ⟨N1, N2⟩ := N
  have nlm : A.lm ≠ A.ls := fun z => by have nd := hB.nd; rw [z] at nd; simp at nd
  unfold t_Book_note
  walk_at "rd"
  refine hB.f_steps cB ⟨isL (sqL hv), ?_⟩
  walk_at "rd"
  refine app_V hv (by rw [hvl.len]; omega) ?_
  walk_at "rd"
  have ob : ∃ dx, (upd H A.ls (.lst (vs ++ [.ref p]))) A.b = some (.ins g.Book dx (bkF A B.n)) := by
    obtain ⟨dx, ob⟩ := hB.ob
    exact ⟨dx, by rw [upd_ne (ne_of ob hv fun z => by cases z)]; exact ob⟩
  obtain ⟨dx, ob⟩ := ob
  have hm1 : (upd H A.ls (.lst (vs ++ [.ref p]))) A.lm = some (.lst ms) := by rw [upd_ne nlm]; exact hm
  refine ⟨_, _, dx, _, _, rfl, ob, cB.cl, cB.made, rfl, isL (sqL hm1), ?_⟩
  walk_at "rd"
  refine app_V hm1 (by rw [hml.len]; omega) ?_
  walk_at "rd"
  refine N1.f_steps cB ?_
  walk_at "rd"
  obtain ⟨vs2, h2, hl2⟩ := N1.st
  refine len_L (sqL h2) ?_
  walk_at "rd"
  have e : ((vs2.length : Nat) : Int) - 1 = (B.steps.length : Int) := by
    have : vs2.length = B.steps.length + 1 := by rw [hl2.len]; show (B.steps ++ [s]).length = _; rw [List.length_append] <;> rfl
    omega
  rw [e]
  exact k _ N1 N2
def sp_Book_sifted (K : PySem.W.Frag) (g : Gd) : Sp := fun vs H Q _ => ∃ (A : Ad) (B : Bk) (moves : List (List Nat)) (a : List Nat) (q : Addr), vs = [.ref A.b, .ref q] ∧ BookAt g H A B ∧ BkOk B moves ∧ IsP B.n a ∧ H q = some (.tup (vN a)) ∧
  ∀ (r ql w : Addr) (H' : Hp), Same H H' → H r = none → H' r = some (.tup [.int ((B.sift a).1 : Int), .ref ql, .ref w]) → H' ql = some (.tup (vN (B.sift a).2.1)) → H' w = some (.lst (vN (B.sift a).2.2)) → H w = none → Q (.ref r) H'
theorem len_Book_sifted (K : PySem.W.Frag) (g : Gd) (vs : List V) (H : Hp) (Q : VK) (E : XK) (h : sp_Book_sifted K g vs H Q E) : vs.length = 2 := by obtain ⟨_, _, _, _, _, rfl, _⟩ := h; rfl
--@facts Book.sifted r_Book
abbrev N_Book_sifted : List Str := ["self", "seating", "left", "went", "k", "at"]
/-- Book.sifted -/
def t_Book_sifted (K : PySem.W.Frag) (g : Gd) (E : XK) : TS :=
  (tSeq (tAsg (tVar 1) (gName 2))
    (tSeq (tAsg (tLst tNil) (gName 3))
    (tSeq (tFor (iRng1 (tCons (tFld K (tVar 0) "size") tNil)) (gName 4) (tSeq (tAsg (tDGet1 (tOp (rIxL K) (tFld K (tVar 0) "rows") (tVar 4)) (tOp (rIxT K) (tVar 2) (tVar 4))) (gName 5))
    (tSeq (tIfS (tTest (tOp rIsN (tVar 5) (tC .non))) (tRet (tTup (tCons (tVar 4) (tCons (tVar 2) (tCons (tVar 3) tNil))))) tNext)
    (tSeq (tDrop (tBM K "list" rAppend (tVar 3) (tCons (tVar 5) tNil)))
    (tAsg (tCallS (sp_joined K g) (fun _ => E0) (tCons (tVar 2) (tCons (tCallS (sp_turned K g) (fun _ => E0) (tCons (tOp (rIxL K) (tFld K (tVar 0) "made") (tVar 5)) tNil)) tNil))) (gName 2))))))
    (tRet (tTup (tCons (tFld K (tVar 0) "size") (tCons (tVar 2) (tCons (tVar 3) tNil))))))))
theorem pure_Book_sifted {K : PySem.W.Frag} {g : Gd} (cB : BkC K g) (vs : List V) (H : Hp) (Q : VK) (E : XK) (h : sp_Book_sifted K g vs H Q E) : Rd1 (t_Book_sifted K g E) N_Book_sifted vs H Q := by
  obtain ⟨A, B, moves, a, q, rfl, hB, ok, pa, hq, k⟩ := h
  unfold t_Book_sifted
  walk_at "rd"
  refine ⟨zl (Nat.zero_le _), fun w hw => ?_⟩
  have s1 := (Same.refl H).new (o := .lst []) hw
  walk_at "rd"
  refine (hB.same s1).f_size cB ?_
  refine w_for1 (by have := ok.h2; omega) (fun k σ H' => ∃ x y ql left went, σ = [some (.ref A.b), some (.ref q), some (.ref ql), some (.ref w), x, y] ∧ Same H H' ∧ H' ql = some (.tup (vN left)) ∧ H' w = some (.lst (vN went)) ∧
    B.siftGo (B.n - k) k left went = B.sift a ∧ IsP B.n left ∧ went.length = k) ⟨none, none, q, a, [], rfl, s1, s1 _ _ hq, upd_same, rfl, pa, rfl⟩ ?_ ?_
  · rintro i σ H1 hi ⟨x, y, ql, left, went, rfl, s, hql, hwl, hS, hp, hl⟩
    have hB1 := hB.same s
    have e1 : B.n - i = (B.n - (i + 1)) + 1 := by omega
    rw [e1] at hS
    unfold Bk.siftGo at hS
    walk_at "rd"
    refine hB1.f_rows cB ?_
    walk_at "rd"
    refine hB1.ix_rows hi rfl fun d hd hdd => ⟨d, rfl, .inl ⟨_, .inl hdd⟩, ?_⟩
    walk_at "rd"
    refine ix_TN (i := i) (sqT hql) (by rw [hp.len]; exact hi) rfl ?_
    refine ⟨_, DGet.k hdd (k := Sum.inl ((left.getD i 0 : Nat) : Int)), ?_⟩
    rw [rowV_get]
    walk_at "re"
    cases hg : rowGet (B.row i) (left.getD i 0) with
    | none =>
      rw [hg] at hS
      walk_at "rd"
      refine ⟨rfl, true, by rfl, if_t rfl ?_⟩
      walk_at "rd"
      refine ⟨zl (by show 3 ≤ 100000; omega), fun r hr => ?_⟩
      have es : B.sift a = (i, left, went) := hS.symm
      refine k r ql w _ (s.new hr) (s.free hr) ?_ ?_ ?_ ?_
      · rw [upd_same, es]
      · rw [upd_ne (ne_of_none hql hr), hql, es]
      · rw [upd_ne (ne_of_none hwl hr), hwl, es]
      · exact hw
    | some m =>
      rw [hg] at hS
      have em := (ok.row i hi).en _ _ (rowGet_mem hg)
      walk_at "rd"
      refine ⟨rfl, false, by rfl, if_f rfl ?_⟩
      walk_at "rd"
      refine ⟨isL (sqL hwl), ?_⟩
      walk_at "rd"
      refine app_N hwl (by have := ok.h2; omega) ?_
      have s2 : Same H (upd H1 w (.lst (vN (went ++ [m])))) := s.up hw
      have hB2 := hB.same s2
      have hql2 : (upd H1 w (.lst (vN (went ++ [m])))) ql = some (.tup (vN left)) := by rw [upd_ne (ne_of hql hwl fun z => by cases z)]; exact hql
      walk_at "rd"
      refine hB2.f_made cB ?_
      walk_at "rd"
      refine hB2.ix_made em.1 rfl fun p hp' => ?_
      walk_at "rd"
      have pm := ok.mkP em.1
      refine ⟨p, B.n, B.mk' m, rfl, sqT hp', pm, by have := ok.h2; omega, fun u H3 s3 hu hu3 => ?_⟩
      walk_at "rd"
      refine ⟨ql, u, left, trn (B.mk' m), rfl, sqT (s3 _ _ hql2), sqT hu3, by rw [hp.len]; have := ok.h2; omega, fun z hz => by rw [trn_len, pm.len]; exact hp.lt hz, fun v H4 s4 hv hv4 => ?_⟩
      refine ⟨_, _, v, jn left (trn (B.mk' m)), went ++ [m], rfl, s2.trans (s3.trans s4), hv4, s4 _ _ (s3 _ _ upd_same), hS, isP_jn hp (isP_trn pm), by rw [List.length_append, hl] <;> rfl⟩
  · rintro σ H1 ⟨x, y, ql, left, went, rfl, s, hql, hwl, hS, hp, hl⟩
    rw [Nat.sub_self] at hS
    have es : B.sift a = (B.n, left, went) := hS.symm
    walk_at "rd"
    refine (hB.same s).f_size cB ?_
    walk_at "rd"
    refine ⟨zl (by show 3 ≤ 100000; omega), fun r hr => ?_⟩
    refine k r ql w _ (s.new hr) (s.free hr) ?_ ?_ ?_ hw
    · rw [upd_same, es]
    · rw [upd_ne (ne_of_none hql hr), hql, es]
    · rw [upd_ne (ne_of_none hwl hr), hwl, es]
end Shf

/-! keeping and closing, walked -/
namespace Shf
open PySem L2
def sp_Book_keep (K : PySem.W.Frag) (g : Gd) : Sp := fun vs H Q _ => ∃ (A : Ad) (B : Bk) (moves : List (List Nat)) (i k : Nat) (went : List Nat) (w : Addr), vs = [.ref A.b, .int (i : Int), .int (k : Int), .ref w] ∧ BookAt g H A B ∧ BkPre B moves ∧ i < B.made.length ∧
  (∀ o ∈ went, o < B.made.length) ∧ H w = some (.lst (vN went)) ∧ w ∉ A.F ∧ k < B.n ∧ Fix k (leftOf B (B.mk' i) went) ∧ rowGet (B.row k) ((leftOf B (B.mk' i) went).getD k 0) = none ∧ B.steps.length ≤ 50000 ∧ went.length ≤ 16 ∧
  ∀ H', BookAt g H' A (B.keep i k went).1 → But A.F H H' → Q (.int ((B.keep i k went).2 : Int)) H'
theorem len_Book_keep (K : PySem.W.Frag) (g : Gd) (vs : List V) (H : Hp) (Q : VK) (E : XK) (h : sp_Book_keep K g vs H Q E) : vs.length = 4 := by obtain ⟨_, _, _, _, _, _, _, rfl, _⟩ := h; rfl
--@facts Book.keep r_Book
abbrev N_Book_keep : List Str := ["self", "at", "where", "went", "seating", "one", "way"]
/-- Book.keep -/
def t_Book_keep (K : PySem.W.Frag) (g : Gd) (E : XK) : TS :=
  (tSeq (tAsg (tOp (rIxL K) (tFld K (tVar 0) "made") (tVar 1)) (gName 4))
    (tSeq (tFor (iList K (tVar 3)) (gName 5) (tIfS (tTest (tOp rNe (tVar 5) (tC (.int 0)))) (tSeq (tAsg (tMethS g.Book "note" (sp_Book_note K g) (fun _ => E0) (tVar 0) (tCons (tTup (tCons (tC (.str "back")) (tCons (tVar 5) tNil))) (tCons (tCallS (sp_turned K g) (fun _ => E0) (tCons (tOp (rIxL K) (tFld K (tVar 0) "made") (tVar 5)) tNil)) tNil))) (gName 6))
    (tSeq (tAsg (tCallS (sp_joined K g) (fun _ => E0) (tCons (tVar 4) (tCons (tOp (rIxL K) (tFld K (tVar 0) "made") (tVar 6)) tNil))) (gName 4))
    (tAsg (tMethS g.Book "note" (sp_Book_note K g) (fun _ => E0) (tVar 0) (tCons (tTup (tCons (tC (.str "then")) (tCons (tVar 1) (tCons (tVar 6) tNil)))) (tCons (tVar 4) tNil))) (gName 1)))) tNext))
    (tSeq (sDPut (tOp (rIxL K) (tFld K (tVar 0) "rows") (tVar 2)) (tOp (rIxT K) (tVar 4) (tVar 2)) (tVar 1))
    (tSeq (tDrop (tBM K "list" rAppend (tFld K (tVar 0) "kept") (tCons (tVar 1) tNil)))
    (tRet (tVar 1))))))
theorem pure_Book_keep {K : PySem.W.Frag} {g : Gd} (cB : BkC K g) (vs : List V) (H : Hp) (Q : VK) (E : XK) (h : sp_Book_keep K g vs H Q E) : Rd1 (t_Book_keep K g E) N_Book_keep vs H Q := by
  obtain ⟨A, B, moves, i, k, went, w, rfl, hB, pre, hi, hwt, hw, hwF, hk, hf, hn, l1, l2, kk⟩ := h
  have h16 := pre.h2
  unfold t_Book_keep
  walk_at "rd"
  refine hB.f_made cB ?_
  walk_at "rd"
  refine hB.ix_made hi rfl fun q0 hq0 => ?_
  walk_at "rd"
  refine ⟨w, rfl, ⟨_, sqL hw⟩, for_list (K := K) (a := w) (xs := vN went) (fun m σ H' => ∃ (s : Bk × List Nat × Nat) (q : Addr) (x y : Option V), σ = [some (.ref A.b), some (.int (s.2.2 : Int)), some (.int (k : Int)), some (.ref w), some (.ref q), x, y] ∧
    s = (went.take m).foldl Bk.keepStep (B, B.mk' i, i) ∧ KS B moves (B.mk' i) (went.take m) s ∧ BookAt g H' A s.1 ∧ H' q = some (.tup (vN s.2.1)) ∧ But A.F H H') ?_ ?_ ?_ ?_⟩
  · exact ⟨(B, B.mk' i, i), q0, none, none, rfl, rfl, KS.start pre hi, hB, hq0, But.refl _ _⟩
  · rintro m σ H' _ ⟨s, q, x, y, rfl, es, ks, hB1, hq, b⟩
    exact sqL (b.s _ _ hw hwF)
  · rintro m z σ H1 hm ⟨s, q, x, y, rfl, es, ks, hB1, hq, b⟩
    obtain ⟨o, ho, rfl⟩ := vN_get hm
    have hol := hwt o (List.mem_of_getElem? ho)
    have ks2 := ks.step pre hol
    have tk := take_more ho
    rw [← tk] at ks2
    have es2 : Bk.keepStep s o = (went.take (m + 1)).foldl Bk.keepStep (B, B.mk' i, i) := by rw [tk, List.foldl_append, ← es] <;> rfl
    have st := ks.st
    have len := ks.pre.len
    have hl : (went.take m).length ≤ 16 := Nat.le_trans (by rw [List.length_take]; omega) l2
    have hol1 : o < s.1.made.length := Nat.lt_of_lt_of_le hol ks.el
    show tIfS _ _ _ _ (List.set _ 5 (some (V.int (o : Int)))) H1
    walk_at "rd"
    refine if_nd (fun c => ?_) (fun c => ?_)
    · have c : o ≠ 0 := fun z => c (by rw [z] <;> rfl)
      have eks : Bk.keepStep s o = ((s.1.note (.back o) (trn (s.1.mk' o))).note (.thn s.2.2 s.1.steps.length) (jn s.2.1 (trn (s.1.mk' o))), jn s.2.1 (trn (s.1.mk' o)), s.1.steps.length + 1) := by unfold Bk.keepStep; rw [if_neg c]
      rw [eks] at ks2 es2
      have po := ks.pre.mkP hol1
      walk_at "rd"
      refine hB1.inst (by rfl) ?_
      walk_at "rd"
      refine ⟨zl (by show 2 ≤ 100000; omega), fun p hp => ?_⟩
      have hB2 := hB1.same ((Same.refl H1).new (o := .tup [.str "back", .int (o : Int)]) hp)
      walk_at "rd"
      refine hB2.f_made cB ?_
      walk_at "rd"
      refine hB2.ix_made hol1 rfl fun u hu => ?_
      walk_at "rd"
      refine ⟨u, s.1.n, s.1.mk' o, rfl, sqT hu, po, by have := ks.pre.h2; omega, fun v H3 s3 hv hv3 => ?_⟩
      walk_at "rd"
      have hB3 := hB2.same s3
      refine ⟨A, s.1, .back o, trn (s.1.mk' o), p, v, rfl, hB3, s3 _ _ upd_same, hv3, by omega, by omega, fun H4 hB4 b4 => ?_⟩
      have bb : But A.F H1 H4 := ((But.of (s3)).trans b4 |> fun z => (But.of ((Same.refl H1).new hp)).trans z)
      have l1' : s.1.steps.length < (s.1.note (.back o) (trn (s.1.mk' o))).made.length := by rw [Bk.note_len]; omega
      have em : (s.1.note (.back o) (trn (s.1.mk' o))).mk' s.1.steps.length = trn (s.1.mk' o) := by rw [len]; exact Bk.note_last
      walk_at "rd"
      refine hB4.f_made cB ?_
      walk_at "rd"
      refine hB4.ix_made l1' rfl fun u2 hu2 => ?_
      rw [em] at hu2
      walk_at "rd"
      refine ⟨q, u2, s.2.1, trn (s.1.mk' o), rfl, sqT (bb.t _ _ hq), sqT hu2, by rw [ks.pg.len]; omega, fun z hz => by rw [trn_len, po.len, ks.en]; exact ks.pg.lt hz, fun v2 H5 s5 hv2 hv25 => ?_⟩
      have hB5 := hB4.same s5
      walk_at "rd"
      refine hB5.inst (by rfl) ?_
      walk_at "rd"
      refine ⟨zl (by show 3 ≤ 100000; omega), fun p2 hp2 => ?_⟩
      have hB6 := hB5.same ((Same.refl H5).new (o := .tup [.str "then", .int (s.2.2 : Int), .int (s.1.steps.length : Int)]) hp2)
      walk_at "rd"
      have ln : (s.1.note (.back o) (trn (s.1.mk' o))).steps.length = s.1.steps.length + 1 := by show (s.1.steps ++ [_]).length = _; rw [List.length_append] <;> rfl
      refine ⟨A, _, .thn s.2.2 s.1.steps.length, jn s.2.1 (trn (s.1.mk' o)), p2, v2, rfl, hB6, upd_same, by rw [upd_ne (ne_of_none hv25 hp2)]; exact hv25, by rw [ln]; omega, by rw [Bk.note_len]; omega, fun H7 hB7 b7 => ?_⟩
      rw [ln]
      refine ⟨_, v2, _, _, rfl, es2, ks2, hB7, b7.t _ _ (by rw [upd_ne (ne_of_none hv25 hp2)]; exact hv25), ?_⟩
      exact b.trans (bb.trans ((But.of s5).trans ((But.of ((Same.refl H5).new hp2)).trans b7)))
    · have c : o = 0 := by omega
      have eks : Bk.keepStep s o = s := by unfold Bk.keepStep; rw [if_pos c]
      rw [eks] at ks2 es2
      walk_at "rd"
      exact ⟨s, q, _, _, rfl, es2, ks2, hB1, hq, b⟩
  · rintro σ H1 ⟨s, q, x, y, rfl, es, ks, hB1, hq, b⟩
    rw [vN_len, List.take_length] at es ks
    have es : s = B.keepF i went := es
    have ek : B.keep i k went = (s.1.setRow k (s.2.1.getD k 0) s.2.2, s.2.2) := by unfold Bk.keep; rw [← es]
    have eg := ks.eg
    have hk1 : k < s.1.n := by rw [ks.en]; exact hk
    have hn1 : rowGet (s.1.row k) (s.2.1.getD k 0) = none := by
      have : s.1.row k = B.row k := by unfold Bk.row; rw [ks.er]
      rw [this, eg]
      exact hn
    have kl : s.1.kept.length ≤ 120 := kept_le ks.pre
    have rl := row_len ks.pre hk1
    have pg := ks.pg
    rw [ek] at kk
    walk_at "re"
    walk_at "sq"
    refine w_dput ?_
    walk_at "rd"
    refine hB1.f_rows cB ?_
    walk_at "rd"
    refine hB1.ix_rows hk1 rfl fun d hd hdd => ?_
    walk_at "rd"
    refine ix_TN (i := k) (sqT hq) (by rw [pg.len]; exact hk) rfl ?_
    obtain ⟨N1, N2⟩ := hB1.rowed (i := s.2.2) hk1 ks.pre.rl hd hn1
    refine ⟨d, _, rfl, DPut.k hdd (k := Sum.inl ((s.2.1.getD k 0 : Nat) : Int)) (zlt (by rw [rowV_len]; have := ks.pre.h2; omega)), ?_⟩
    have ob : ∃ dx, (upd H1 d (.dK (putK (rowV (s.1.row k)) (Sum.inl ((s.2.1.getD k 0 : Nat) : Int) : Key) (V.int (s.2.2 : Int))))) A.b = some (.ins g.Book dx (bkF A s.1.n)) := by
      obtain ⟨dx, ob⟩ := hB1.ob
      exact ⟨dx, by rw [upd_ne (ne_of ob hdd fun z => by cases z)]; exact ob⟩
    obtain ⟨dx, ob⟩ := ob
    have hk2 : (upd H1 d (.dK (putK (rowV (s.1.row k)) (Sum.inl ((s.2.1.getD k 0 : Nat) : Int) : Key) (V.int (s.2.2 : Int))))) A.lk = some (.lst (vN s.1.kept)) := by rw [upd_ne (ne_of hB1.kp hdd fun z => by cases z)]; exact hB1.kp
    walk_at "rd"
    refine ⟨_, _, dx, _, _, rfl, ob, cB.cl, cB.kept, rfl, isL (sqL hk2), ?_⟩
    walk_at "rd"
    refine app_N hk2 (by omega) ?_
    walk_at "rd"
    exact kk _ N1 (b.trans N2)
def prV (p : Nat × Nat) : List V := [.int (p.1 : Int), .int (p.2 : Int)]
theorem closeGo_nil (f : Nat) (s : Bk × List (Nat × Nat) × Bool) (h : s.2.1 = []) : Bk.closeGo f s = s := by
  cases f with
  | zero => rfl
  | succ f =>
    unfold Bk.closeGo
    rw [h] <;> rfl
theorem prs_snoc (i : Nat) (ks : List Nat) (o : Nat) : Bk.prs i (ks ++ [o]) = Bk.prs i ks ++ [(i, o), (o, i)] := by
  unfold Bk.prs
  rw [List.flatMap_append] <;> rfl
def sp_Book_close (K : PySem.W.Frag) (g : Gd) : Sp := fun vs H Q _ => ∃ (A : Ad) (B : Bk) (moves : List (List Nat)) (i : Nat), vs = [.ref A.b, .int (i : Int)] ∧ BookAt g H A B ∧ CInv moves B (B, [(i, 0)], false) ∧ moves.length ≤ 1000 ∧
  ∀ H', BookAt g H' A (B.close i).1 → But A.F H H' → Q (.bl (B.close i).2) H'
theorem len_Book_close (K : PySem.W.Frag) (g : Gd) (vs : List V) (H : Hp) (Q : VK) (E : XK) (h : sp_Book_close K g vs H Q E) : vs.length = 2 := by obtain ⟨_, _, _, _, rfl, _⟩ := h; rfl
--@facts Book.close r_Book
abbrev N_Book_close : List Str := ["self", "first", "grew", "todo", "pair", "seating", "found", "at", "new", "one"]
/-- Book.close -/
def t_Book_close (K : PySem.W.Frag) (g : Gd) (E : XK) : TS :=
  (tSeq (tAsg (tC (.bl false)) (gName 2))
    (tSeq (tAsg (tLst (tCons (tTup (tCons (tVar 1) (tCons (tC (.int 0)) tNil))) tNil)) (gName 3))
    (tSeq (tWhile (tTest (tOp rGtI (tCB (rLenQ K) (tCons (tVar 3) tNil)) (tC (.int 0)))) (tSeq (tAsg (tBM0 K "list" rPop (tVar 3)) (gName 4))
    (tSeq (tAsg (tCallS (sp_joined K g) (fun _ => E0) (tCons (tOp (rIxL K) (tFld K (tVar 0) "made") (tOp (rIxT K) (tVar 4) (tC (.int 0)))) (tCons (tOp (rIxL K) (tFld K (tVar 0) "made") (tOp (rIxT K) (tVar 4) (tC (.int 1)))) tNil))) (gName 5))
    (tSeq (tAsg (tMethS g.Book "sifted" (sp_Book_sifted K g) (fun _ => E0) (tVar 0) (tCons (tVar 5) tNil)) (gName 6))
    (tIfS (tTest (tOp rLtI (tOp (rIxT K) (tVar 6) (tC (.int 0))) (tFld K (tVar 0) "size"))) (tSeq (tAsg (tOp (rIxT K) (tVar 4) (tC (.int 0))) (gName 7))
    (tSeq (tIfS (tTest (tOp rNe (tOp (rIxT K) (tVar 4) (tC (.int 1))) (tC (.int 0)))) (tAsg (tMethS g.Book "note" (sp_Book_note K g) (fun _ => E0) (tVar 0) (tCons (tTup (tCons (tC (.str "then")) (tCons (tOp (rIxT K) (tVar 4) (tC (.int 0))) (tCons (tOp (rIxT K) (tVar 4) (tC (.int 1))) tNil)))) (tCons (tVar 5) tNil))) (gName 7)) tNext)
    (tSeq (tAsg (tMethS g.Book "keep" (sp_Book_keep K g) (fun _ => E0) (tVar 0) (tCons (tVar 7) (tCons (tOp (rIxT K) (tVar 6) (tC (.int 0))) (tCons (tOp (rIxT K) (tVar 6) (tC (.int 2))) tNil)))) (gName 8))
    (tSeq (tAsg (tC (.bl true)) (gName 2))
    (tFor (iList K (tFld K (tVar 0) "kept")) (gName 9) (tSeq (tDrop (tBM K "list" rAppend (tVar 3) (tCons (tTup (tCons (tVar 8) (tCons (tVar 9) tNil))) tNil)))
    (tDrop (tBM K "list" rAppend (tVar 3) (tCons (tTup (tCons (tVar 9) (tCons (tVar 8) tNil))) tNil))))))))) tNext)))))
    (tRet (tVar 2)))))
theorem pure_Book_close {K : PySem.W.Frag} {g : Gd} (cB : BkC K g) (vs : List V) (H : Hp) (Q : VK) (E : XK) (h : sp_Book_close K g vs H Q E) : Rd1 (t_Book_close K g E) N_Book_close vs H Q := by
  obtain ⟨A, B, moves, i, rfl, hB, I0, hml, k⟩ := h
  have hmu0 : muF (B, [(i, 0)], false) ≤ 40000 := Nat.le_trans I0.mu (by decide)
  have ec : B.close i = ((Bk.closeGo 40000 (B, [(i, 0)], false)).1, (Bk.closeGo 40000 (B, [(i, 0)], false)).2.2) := rfl
  rw [ec] at k
  unfold t_Book_close
  walk_at "rd"
  refine ⟨zl (by show 2 ≤ 100000; omega), fun p0 hp0 => ?_⟩
  have s1 := (Same.refl H).new (o := .tup [.int (i : Int), .int 0]) hp0
  walk_at "rd"
  refine ⟨zl (by show 1 ≤ 100000; omega), fun t ht => ?_⟩
  have s2 := s1.new (o := .lst [.ref p0]) ht
  have ht0 : H t = none := s1.free ht
  have htF : t ∉ A.F := fun z => by
    obtain ⟨u, hu, _⟩ := hB.nt z
    rw [ht0] at hu; cases hu
  walk_at "rd"
  refine w_while ⟨fun m σ H' => ∃ (st : Bk × List (Nat × Nat) × Bool) (x4 x5 x6 x7 x8 x9 : Option V), muF st = m ∧ σ = [some (.ref A.b), some (.int (i : Int)), some (.bl st.2.2), some (.ref t), x4, x5, x6, x7, x8, x9] ∧ CInv moves B st ∧ BookAt g H' A st.1 ∧
    (∃ vs, H' t = some (.lst vs) ∧ LG prV H' vs st.2.1) ∧ But A.F H H' ∧ ∃ f, muF st ≤ f ∧ Bk.closeGo f st = Bk.closeGo 40000 (B, [(i, 0)], false), ⟨muF (B, [(i, 0)], false), (B, [(i, 0)], false), none, none, none, none, none, none, rfl, rfl, I0, hB.same s2, ⟨_, upd_same, .cons ?_ .nil⟩, But.of s2, 40000, hmu0, rfl⟩, ?_⟩
  · rw [upd_ne (ne_of_none upd_same ht)]
    exact upd_same
  rintro m σ H1 ⟨⟨B1, td, gr⟩, x4, x5, x6, x7, x8, x9, hm, rfl, I, hB1, ⟨vs, hv, hl⟩, b, f, hf, hgo⟩
  dsimp only at hB1 hl
  have tlen : td.length ≤ 28921 := by have := I.mu; dsimp only at this; omega
  walk_at "rd"
  refine len_L (sqL hv) ?_
  walk_at "rd"
  refine if_d (fun c => ?_) (fun c => ?_)
  · -- one pair more
    have c : 0 < td.length := by rw [← hl.len]; omega
    obtain ⟨t', pq, etd⟩ : ∃ t' pq, td = t' ++ [pq] := ⟨td.dropLast, td.getLast (by intro z; rw [z] at c; exact Nat.lt_irrefl _ c), (List.dropLast_concat_getLast _).symm⟩
    obtain ⟨p, q⟩ := pq
    subst etd
    have I' := I
    obtain ⟨J1, J2⟩ := I'.step
    obtain ⟨f', rfl⟩ : ∃ f', f = f' + 1 := ⟨f - 1, by omega⟩
    have hgo' : Bk.closeGo f' (B1.closeStep t' p q gr) = Bk.closeGo 40000 (B, [(i, 0)], false) := by
      rw [← hgo]
      unfold Bk.closeGo
      rw [List.getLast?_concat]
      show _ = Bk.closeGo f' (B1.closeStep (t' ++ [(p, q)]).dropLast p q gr)
      rw [List.dropLast_concat]
      cases f' <;> rfl
    obtain ⟨hp, hq⟩ := I.td (p, q) (List.mem_append_right _ (List.mem_singleton.mpr rfl))
    have hp : p < B1.made.length := hp
    have hq : q < B1.made.length := hq
    have ok := I.ok
    dsimp only at ok
    have pp := ok.mkP hp
    have pq := ok.mkP hq
    have ps := isP_jn pp pq
    have h16 := ok.h2
    obtain ⟨vs', pa, rfl, hl', hpa⟩ := hl.last
    refine ⟨fun σ' H' => ∃ (st : Bk × List (Nat × Nat) × Bool) (x4 x5 x6 x7 x8 x9 : Option V), muF st < m ∧ σ' = [some (.ref A.b), some (.int (i : Int)), some (.bl st.2.2), some (.ref t), x4, x5, x6, x7, x8, x9] ∧ CInv moves B st ∧ BookAt g H' A st.1 ∧
      (∃ vs, H' t = some (.lst vs) ∧ LG prV H' vs st.2.1) ∧ But A.F H H' ∧ ∃ f, muF st ≤ f ∧ Bk.closeGo f st = Bk.closeGo 40000 (B, [(i, 0)], false), ?_, ?_⟩
    · rintro σ' H' ⟨st, x4, x5, x6, x7, x8, x9, h1, h2⟩
      exact ⟨_, h1, st, x4, x5, x6, x7, x8, x9, rfl, h2⟩
    walk_at "rd"
    refine ⟨isL (sqL hv), t, _, .ref pa, rfl, rfl, hv, ?_, ?_⟩
    · rw [List.length_append]
      show (vs' ++ [V.ref pa])[vs'.length + 1 - 1]? = _
      rw [Nat.add_sub_cancel, List.getElem?_append_right (Nat.le_refl _), Nat.sub_self] <;> rfl
    rw [List.dropLast_concat]
    have b2 : But A.F H (upd H1 t (.lst vs')) := b.own hv ht0
    have hB2 : BookAt g (upd H1 t (.lst vs')) A B1 := hB1.fr fun a u e cc => by
      rw [upd_ne]
      · exact e
      · rintro rfl
        rcases cc with cc | ⟨xs, rfl⟩
        · obtain ⟨u', hu'⟩ := hB.full cc
          rw [ht0] at hu'; cases hu'
        · rw [hv] at e; cases e
    have tu2 : Tu H1 (upd H1 t (.lst vs')) := fun z xs e => by rw [upd_ne (ne_of e hv fun z => by cases z)]; exact e
    have hl2 : LG prV (upd H1 t (.lst vs')) vs' t' := hl'.tu tu2
    have hv2 : (upd H1 t (.lst vs')) t = some (.lst vs') := upd_same
    have hpa2 := tu2 _ _ hpa
    generalize upd H1 t (.lst vs') = H2 at *
    clear hl' hpa hv hB1 b tu2 hl
    have hpT : SqT K H2 pa [.int (p : Int), .int (q : Int)] := sqT hpa2
    walk_at "rd"
    refine hB2.f_made cB ?_
    walk_at "rd"
    refine ix_T (i := 0) hpT rfl rfl ?_
    refine hB2.ix_made hp rfl fun u1 hu1 => ?_
    walk_at "rd"
    refine hB2.f_made cB ?_
    walk_at "rd"
    refine ix_T (i := 1) hpT rfl rfl ?_
    refine hB2.ix_made hq rfl fun u2 hu2 => ?_
    walk_at "rd"
    refine ⟨u1, u2, B1.mk' p, B1.mk' q, rfl, sqT hu1, sqT hu2, by rw [pp.len]; omega, fun z hz => by rw [pq.len]; exact pp.lt hz, fun sg H3 s3 hsg hsg3 => ?_⟩
    walk_at "rd"
    have hB3 := hB2.same s3
    refine hB3.inst (by rfl) ?_
    walk_at "rd"
    refine ⟨A, B1, moves, jn (B1.mk' p) (B1.mk' q), sg, rfl, hB3, ok, ps, hsg3, fun r ql w H4 s4 hr hr4 hql hw hw0 => ?_⟩
    have hB4 := hB3.same s4
    have s34 := s3.trans s4
    have hpT4 : SqT K H4 pa [.int (p : Int), .int (q : Int)] := sqT (s34 _ _ hpa2)
    have hrT : SqT K H4 r _ := sqT hr4
    have hv4 : H4 t = some (.lst vs') := s34 _ _ hv2
    have hl4 := hl2.tu s34.tu
    have b4 : But A.F H H4 := b2.trans (.of s34)
    have hsg4 := s4 _ _ hsg3
    obtain ⟨g1, g2, g3, g4, g5, g6⟩ := sift_spec ok ps
    walk_at "re"
    walk_at "st"
    walk_at "re"
    refine ix_T (i := 0) hrT rfl rfl ?_
    walk_at "re"
    refine hB4.f_size cB ?_
    walk_at "re"
    refine if_d (fun cs => ?_) (fun cs => ?_)
    · have cs : (B1.sift (jn (B1.mk' p) (B1.mk' q))).1 < B1.n := by omega
      obtain ⟨Bm, im, e1, e2, bm, xm, li, mi, km, rm, lm, stm⟩ := closeMid ok hp hq cs
      have ecs : B1.closeStep t' p q gr = ((Bm.keep im (B1.sift (jn (B1.mk' p) (B1.mk' q))).1 (B1.sift (jn (B1.mk' p) (B1.mk' q))).2.2).1, t' ++ Bk.prs (Bm.keep im (B1.sift (jn (B1.mk' p) (B1.mk' q))).1 (B1.sift (jn (B1.mk' p) (B1.mk' q))).2.2).2 (Bm.keep im (B1.sift (jn (B1.mk' p) (B1.mk' q))).1 (B1.sift (jn (B1.mk' p) (B1.mk' q))).2.2).1.kept, true) := by
        unfold Bk.closeStep
        rw [if_pos cs, e1, e2]
      have stb := ok.stb
      have kl := kept_le ok.pre
      have kl2 : B1.kept.length * (2 * B1.n) ≤ 120 * (2 * 16) := Nat.mul_le_mul kl (by omega)
      have oklen := ok.len
      rw [ecs] at J1 J2 hgo'
      clear ecs
      walk_at "re"
      walk_at "sq"
      walk_at "re"
      refine ix_T (i := 0) hpT4 rfl rfl ?_
      walk_at "re"
      walk_at "sq"
      refine w_join (t := tIfS _ _ _) (fun σ H' => ∃ x8 x9, σ = [some (.ref A.b), some (.int (i : Int)), some (.bl gr), some (.ref t), some (.ref pa), some (.ref sg), some (.ref r), some (.int (im : Int)), x8, x9] ∧ BookAt g H' A Bm ∧ But A.F H4 H' ∧ H' t = some (.lst vs') ∧ H' w = some (.lst (vN (B1.sift (jn (B1.mk' p) (B1.mk' q))).2.2))) ?_ fun key => ?_
      · rintro σ H5 ⟨y8, y9, rfl, hB5, b5, hv5, hw5⟩
        have hrT5 : SqT K H5 r _ := sqT (b5.t _ _ hr4)
        have hwF : w ∉ A.F := fun z => by
          obtain ⟨u, hu, _⟩ := hB3.nt z
          rw [hw0] at hu; cases hu
        walk_at "re"
        walk_at "sq"
        walk_at "re"
        refine hB5.inst (by rfl) ?_
        walk_at "re"
        refine ix_T (i := 0) hrT5 rfl rfl ?_
        walk_at "re"
        refine ix_T (i := 2) hrT5 rfl rfl ?_
        walk_at "re"
        refine ⟨A, Bm, moves, im, (B1.sift (jn (B1.mk' p) (B1.mk' q))).1, (B1.sift (jn (B1.mk' p) (B1.mk' q))).2.2, w, rfl, hB5, bm, li, fun o ho => Nat.lt_of_lt_of_le (g4 o ho) xm.ml, hw5, hwF, by rw [xm.en]; exact cs, by rw [mi, lm]; exact g3, by rw [mi, lm, rm]; exact g6 cs, by omega, by omega, fun H6 hB6 b6 => ?_⟩
        generalize Bm.keep im (B1.sift (jn (B1.mk' p) (B1.mk' q))).1 (B1.sift (jn (B1.mk' p) (B1.mk' q))).2.2 = R at *
        obtain ⟨B', new⟩ := R
        dsimp only at J1 J2 hgo' hB6 ⊢
        have b46 := b5.trans b6
        have hv6 : H6 t = some (.lst vs') := b6.s _ _ hv5 htF
        have hl6 : LG prV H6 vs' t' := hl4.tu b46.t
        have b06 := b4.trans b46
        have tl' : (t' ++ Bk.prs new B'.kept).length ≤ 28921 := by have := J1.mu; dsimp only at this; omega
        walk_at "rd"
        refine hB6.f_kept cB ?_
        refine ⟨A.lk, rfl, ⟨_, sqL hB6.kp⟩, for_list (K := K) (a := A.lk) (xs := vN B'.kept) (fun n σ H' => (∃ x9, σ = [some (.ref A.b), some (.int (i : Int)), some (.bl true), some (.ref t), some (.ref pa), some (.ref sg), some (.ref r), some (.int (im : Int)), some (.int (new : Int)), x9]) ∧ BookAt g H' A B' ∧ But A.F H H' ∧
          ∃ vs, H' t = some (.lst vs) ∧ LG prV H' vs (t' ++ Bk.prs new (B'.kept.take n))) ?_ ?_ ?_ ?_⟩
        · exact ⟨⟨_, rfl⟩, hB6, b06, vs', hv6, by rw [List.take_zero]; show LG prV H6 vs' (t' ++ []); rw [List.append_nil]; exact hl6⟩
        · rintro n σ H7 _ ⟨_, hB7, _⟩
          exact sqL hB7.kp
        · rintro n z σ H7 hn ⟨⟨y9, rfl⟩, hB7, b7, vs7, hv7, hl7⟩
          obtain ⟨o, ho, rfl⟩ := vN_get hn
          have tlen : (t' ++ Bk.prs new (B'.kept.take n)).length ≤ 28921 := by
            rw [List.length_append, prs_len] at tl' ⊢
            rw [List.length_take]
            omega
          show tSeq _ _ _ (List.set _ 9 (some (V.int (o : Int)))) H7
          walk_at "rd"
          refine ⟨isL (sqL hv7), ?_⟩
          walk_at "rd"
          refine ⟨zl (by show 2 ≤ 100000; omega), fun z1 hz1 => ?_⟩
          walk_at "rd"
          have hv8 : (upd H7 z1 (.tup [.int (new : Int), .int (o : Int)])) t = some (.lst vs7) := by rw [upd_ne (ne_of_none hv7 hz1)]; exact hv7
          refine app_V hv8 (by rw [hl7.len]; omega) ?_
          have hB8 : BookAt g (upd (upd H7 z1 (.tup [.int (new : Int), .int (o : Int)])) t (.lst (vs7 ++ [.ref z1]))) A B' := (hB7.same ((Same.refl H7).new (o := .tup [.int (new : Int), .int (o : Int)]) hz1)).fr fun a u e cc => by
            rw [upd_ne]
            · exact e
            · rintro rfl
              rcases cc with cc | ⟨xs, rfl⟩
              · obtain ⟨u', hu'⟩ := hB.full cc
                rw [ht0] at hu'; cases hu'
              · rw [hv8] at e; cases e
          have b8 : But A.F H (upd (upd H7 z1 (.tup [.int (new : Int), .int (o : Int)])) t (.lst (vs7 ++ [.ref z1]))) := (b7.new hz1).own hv8 ht0
          have tu8 : Tu H7 (upd (upd H7 z1 (.tup [.int (new : Int), .int (o : Int)])) t (.lst (vs7 ++ [.ref z1]))) := fun a xs e => by rw [upd_ne (ne_of e hv7 fun z => by cases z), upd_ne (ne_of_none e hz1)]; exact e
          have hz8 : (upd (upd H7 z1 (.tup [.int (new : Int), .int (o : Int)])) t (.lst (vs7 ++ [.ref z1]))) z1 = some (.tup (prV (new, o))) := by rw [upd_ne (ne_of_none hv7 hz1).symm]; exact upd_same
          have hl8 := (hl7.tu tu8).snoc (a := (new, o)) hz8
          have hv9 : (upd (upd H7 z1 (.tup [.int (new : Int), .int (o : Int)])) t (.lst (vs7 ++ [.ref z1]))) t = some (.lst (vs7 ++ [.ref z1])) := upd_same
          generalize upd (upd H7 z1 (.tup [.int (new : Int), .int (o : Int)])) t (.lst (vs7 ++ [.ref z1])) = H8 at *
          walk_at "rd"
          refine ⟨isL (sqL hv9), ?_⟩
          walk_at "rd"
          refine ⟨zl (by show 2 ≤ 100000; omega), fun z2 hz2 => ?_⟩
          walk_at "rd"
          have hv10 : (upd H8 z2 (.tup [.int (o : Int), .int (new : Int)])) t = some (.lst (vs7 ++ [.ref z1])) := by rw [upd_ne (ne_of_none hv9 hz2)]; exact hv9
          refine app_V hv10 (by rw [List.length_append, hl7.len]; show _ + 1 < _; omega) ?_
          refine ⟨⟨_, rfl⟩, ?_, (b8.new hz2).own hv10 ht0, _, upd_same, ?_⟩
          · refine (hB8.same ((Same.refl H8).new (o := .tup [.int (o : Int), .int (new : Int)]) hz2)).fr fun a u e cc => ?_
            rw [upd_ne]
            · exact e
            · rintro rfl
              rcases cc with cc | ⟨xs, rfl⟩
              · obtain ⟨u', hu'⟩ := hB.full cc
                rw [ht0] at hu'; cases hu'
              · rw [hv10] at e; cases e
          · rw [take_more ho, prs_snoc]
            have tu9 : Tu H8 (upd (upd H8 z2 (.tup [.int (o : Int), .int (new : Int)])) t (.lst (vs7 ++ [.ref z1] ++ [.ref z2]))) := fun a xs e => by rw [upd_ne (ne_of e hv9 fun z => by cases z), upd_ne (ne_of_none e hz2)]; exact e
            have hz9 : (upd (upd H8 z2 (.tup [.int (o : Int), .int (new : Int)])) t (.lst (vs7 ++ [.ref z1] ++ [.ref z2]))) z2 = some (.tup (prV (o, new))) := by rw [upd_ne (ne_of_none hv9 hz2).symm]; exact upd_same
            have := (hl8.tu tu9).snoc (a := (o, new)) hz9
            rw [List.append_assoc (t' ++ Bk.prs new (B'.kept.take n)) [(new, o)] [(o, new)]] at this
            rw [← List.append_assoc t']
            exact this
        · rintro σ H7 ⟨⟨y9, rfl⟩, hB7, b7, vs7, hv7, hl7⟩
          rw [vN_len, List.take_length] at hl7
          exact ⟨_, _, _, _, _, _, _, by omega, rfl, J1, hB7, ⟨vs7, hv7, hl7⟩, b7, f', by omega, hgo'⟩
      · walk_at "st"
        walk_at "re"
        refine ix_T (i := 1) hpT4 rfl rfl ?_
        walk_at "re"
        refine if_nd (fun cq => ?_) (fun cq => ?_)
        · have cq : q ≠ 0 := fun z => cq (by rw [z] <;> rfl)
          rw [if_neg cq] at e1 e2
          subst e1 e2
          walk_at "re"
          refine hB4.inst (by rfl) ?_
          walk_at "re"
          refine ix_T (i := 0) hpT4 rfl rfl ?_
          walk_at "re"
          refine ix_T (i := 1) hpT4 rfl rfl ?_
          walk_at "re"
          refine ⟨zl (by show 3 ≤ 100000; omega), fun z1 hz1 => ?_⟩
          have sz := (Same.refl H4).new (o := .tup [.str "then", .int (p : Int), .int (q : Int)]) hz1
          walk_at "re"
          refine ⟨A, B1, .thn p q, _, z1, sg, rfl, hB4.same sz, upd_same, sz _ _ hsg4, by omega, by omega, fun H5 hB5 b5 => ?_⟩
          have b45 := (But.of (F := A.F) sz).trans b5
          refine key _ _ ⟨_, _, rfl, hB5, b45, b45.s _ _ hv4 htF, b45.s _ _ hw fun z => ?_⟩
          obtain ⟨u, hu, _⟩ := hB3.nt z
          rw [hw0] at hu; cases hu
        · have cq : q = 0 := by omega
          rw [if_pos cq] at e1 e2
          subst e1 e2
          walk_at "re"
          exact key _ _ ⟨_, _, rfl, hB4, But.refl _ _, hv4, hw⟩
    · have ecs : B1.closeStep t' p q gr = (B1, t', gr) := by
        unfold Bk.closeStep
        rw [if_neg (fun z => cs (by omega))]
      rw [ecs] at J1 J2 hgo'
      walk_at "re"
      exact ⟨(B1, t', gr), _, _, _, _, _, _, by omega, rfl, J1, hB4, ⟨vs', hv4, hl4⟩, b4, f', by omega, hgo'⟩
  · have c : td = [] := List.length_eq_zero_iff.mp (by rw [← hl.len]; omega)
    have e := closeGo_nil f (B1, td, gr) c
    rw [← hgo, e] at k
    walk_at "rd"
    exact k _ hB1 b
end Shf

/-! rooms in memory: made, asked, moves put in -/
namespace Shf
open PySem L2
theorem BookAt.out {g : Gd} {H : Hp} {A : Ad} {B : Bk} (h : BookAt g H A B) {l : Addr} {o0 o : HO} (hl : H l = some o0) (nt : ∀ xs, o0 ≠ .tup xs) (n : l ∉ A.G) : BookAt g (upd H l o) A B := h.fr fun a u e cc => by
  rw [upd_ne]
  · exact e
  · rintro rfl
    rcases cc with cc | ⟨xs, rfl⟩
    · exact n cc
    · rw [hl] at e; exact nt xs (Option.some.inj e)
def sp_Book_init (K : PySem.W.Frag) (g : Gd) : Sp := fun vs H Q _ => ∃ (x dx : Addr) (n : Nat), vs = [.ref x, .int (n : Int)] ∧ 1 ≤ n ∧ n ≤ 16 ∧ H x = some (.ins g.Book dx []) ∧
  ∀ H' A, A.b = x → BookAt g H' A (Bk.new n) → But [x] H H' → (∀ a ∈ A.G, a ≠ x → H a = none) → Q .non H'
theorem len_Book_init (K : PySem.W.Frag) (g : Gd) (vs : List V) (H : Hp) (Q : VK) (E : XK) (h : sp_Book_init K g vs H Q E) : vs.length = 2 := by obtain ⟨_, _, _, rfl, _⟩ := h; rfl
--@facts Book.__init__ r_Book
abbrev N_Book_init : List Str := ["self", "size", "k"]
/-- Book.__init__ -/
def t_Book_init (K : PySem.W.Frag) (g : Gd) (E : XK) : TS :=
  (tSeq (sFld K (tVar 0) (tVar 1) "size")
    (tSeq (sFld K (tVar 0) (tLst (tCons (tTup (tCons (tC (.str "rest")) tNil)) tNil)) "steps")
    (tSeq (sFld K (tVar 0) (tLst (tCons (tCallS (sp_rest K g) (WE (wE E)) (tCons (tVar 1) tNil)) tNil)) "made")
    (tSeq (sFld K (tVar 0) (tLc (iRng1 (tCons (tVar 1) tNil)) (gName 2) tYes (tDisp (((tVar 2), (tC (.int 0))) :: [])) [2]) "rows")
    (sFld K (tVar 0) (tLst tNil) "kept")))))
theorem pure_Book_init {K : PySem.W.Frag} {g : Gd} (cB : BkC K g) (vs : List V) (H : Hp) (Q : VK) (E : XK) (h : sp_Book_init K g vs H Q E) : Rd1 (t_Book_init K g E) N_Book_init vs H Q := by
  obtain ⟨x, dx, n, rfl, h1, h2, hx, k⟩ := h
  have step : ∀ {fs : List (Str × V)} {H1 : Hp} {o : HO}, But [x] H H1 → H1 x = some (.ins g.Book dx fs) → But [x] H (upd H1 x o) := fun b e => b.up e (fun _ z => by cases z) (List.mem_singleton.mpr rfl)
  unfold t_Book_init
  walk_at "rd"
  refine ⟨x, _, dx, _, rfl, hx, cB.cl, cB.size, by show 0 < 1000; omega, ?_⟩
  have X1 : (upd H x (.ins g.Book dx [("size", .int (n : Int))])) x = some (.ins g.Book dx [("size", .int (n : Int))]) := upd_same
  have b1 : But [x] H (upd H x (.ins g.Book dx [("size", .int (n : Int))])) := step (But.refl _ _) hx
  show tSeq _ _ _ _ (upd H x (.ins g.Book dx [("size", .int (n : Int))]))
  generalize upd H x (.ins g.Book dx [("size", .int (n : Int))]) = H1 at X1 b1 ⊢
  -- steps
  walk_at "rd"
  refine ⟨zl (by show 1 ≤ 100000; omega), fun p1 hp1 => ?_⟩
  walk_at "rd"
  refine ⟨zl (by show 1 ≤ 100000; omega), fun ls hls => ?_⟩
  walk_at "rd"
  have b2 : But [x] H (upd (upd H1 p1 (.tup [.str "rest"])) ls (.lst [.ref p1])) := (b1.new hp1).new hls
  have X2 : (upd (upd H1 p1 (.tup [.str "rest"])) ls (.lst [.ref p1])) x = some (.ins g.Book dx [("size", .int (n : Int))]) := by
    have e1 := ne_of_none X1 hp1
    have : (upd H1 p1 (.tup [.str "rest"])) x = some (.ins g.Book dx [("size", .int (n : Int))]) := by rw [upd_ne e1]; exact X1
    rw [upd_ne (ne_of_none this hls)]; exact this
  have P2 : (upd (upd H1 p1 (.tup [.str "rest"])) ls (.lst [.ref p1])) p1 = some (.tup [.str "rest"]) := by rw [upd_ne (ne_of_none upd_same hls)]; exact upd_same
  have L2' : (upd (upd H1 p1 (.tup [.str "rest"])) ls (.lst [.ref p1])) ls = some (.lst [.ref p1]) := upd_same
  have f1 : H ls = none := (b1.new hp1).f _ hls
  generalize upd (upd H1 p1 (.tup [.str "rest"])) ls (.lst [.ref p1]) = H2 at *
  clear hls hp1 X1 b1
  refine ⟨x, _, dx, _, rfl, X2, cB.cl, cB.steps, by show 1 < 1000; omega, ?_⟩
  have b3 : But [x] H (upd H2 x (.ins g.Book dx [("size", .int (n : Int)), ("steps", .ref ls)])) := step b2 X2
  have X3 : (upd H2 x (.ins g.Book dx [("size", .int (n : Int)), ("steps", .ref ls)])) x = some (.ins g.Book dx [("size", .int (n : Int)), ("steps", .ref ls)]) := upd_same
  have P3 : (upd H2 x (.ins g.Book dx [("size", .int (n : Int)), ("steps", .ref ls)])) p1 = some (.tup [.str "rest"]) := by rw [upd_ne (ne_of P2 X2 fun z => by cases z)]; exact P2
  have L3 : (upd H2 x (.ins g.Book dx [("size", .int (n : Int)), ("steps", .ref ls)])) ls = some (.lst [.ref p1]) := by rw [upd_ne (ne_of L2' X2 fun z => by cases z)]; exact L2'
  show tSeq _ _ _ _ (upd H2 x (.ins g.Book dx [("size", .int (n : Int)), ("steps", .ref ls)]))
  generalize upd H2 x (.ins g.Book dx [("size", .int (n : Int)), ("steps", .ref ls)]) = H3 at *
  clear b2 X2 P2 L2'
  -- made
  walk_at "rd"
  refine ⟨_, rfl, fun _ m0 H4 s4 hm hm0 => ?_, fun c => absurd (by omega) c⟩
  rw [show ((n : Int)).toNat = n from Int.toNat_natCast n] at hm0
  walk_at "rd"
  refine ⟨zl (by show 1 ≤ 100000; omega), fun lm hlm => ?_⟩
  have s5 : Same H3 (upd H4 lm (.lst [.ref m0])) := s4.new hlm
  have b5 : But [x] H (upd H4 lm (.lst [.ref m0])) := b3.trans (.of s5)
  have f2 : H lm = none := (b3.trans (.of s4)).f _ hlm
  have n1 : lm ≠ ls := (ne_of_none (s4 _ _ L3) hlm).symm
  have X5 := s5 _ _ X3
  have P5 := s5 _ _ P3
  have L5 := s5 _ _ L3
  have M5 : (upd H4 lm (.lst [.ref m0])) lm = some (.lst [.ref m0]) := upd_same
  have N5 : (upd H4 lm (.lst [.ref m0])) m0 = some (.tup (vN (List.range n))) := by rw [upd_ne (ne_of_none hm0 hlm)]; exact hm0
  generalize upd H4 lm (.lst [.ref m0]) = H5 at *
  clear hlm hm0 hm s4 s5 X3 P3 L3 b3
  walk_at "rd"
  refine ⟨x, _, dx, _, rfl, X5, cB.cl, cB.made, by show 2 < 1000; omega, ?_⟩
  have b6 : But [x] H (upd H5 x (.ins g.Book dx [("size", .int (n : Int)), ("steps", .ref ls), ("made", .ref lm)])) := step b5 X5
  have X6 : (upd H5 x (.ins g.Book dx [("size", .int (n : Int)), ("steps", .ref ls), ("made", .ref lm)])) x = some (.ins g.Book dx [("size", .int (n : Int)), ("steps", .ref ls), ("made", .ref lm)]) := upd_same
  have g5 : ∀ {a : Addr} {o : HO}, H5 a = some o → (∀ C dx fs, o ≠ .ins C dx fs) → (upd H5 x (.ins g.Book dx [("size", .int (n : Int)), ("steps", .ref ls), ("made", .ref lm)])) a = some o := fun e q => by
    rw [upd_ne (ne_of e X5 fun z => q _ _ _ z)]; exact e
  have P6 := g5 P5 fun _ _ _ z => by cases z
  have L6 := g5 L5 fun _ _ _ z => by cases z
  have M6 := g5 M5 fun _ _ _ z => by cases z
  have N6 := g5 N5 fun _ _ _ z => by cases z
  show tSeq _ _ _ _ (upd H5 x (.ins g.Book dx [("size", .int (n : Int)), ("steps", .ref ls), ("made", .ref lm)]))
  generalize upd H5 x (.ins g.Book dx [("size", .int (n : Int)), ("steps", .ref ls), ("made", .ref lm)]) = H6 at *
  clear g5 P5 L5 M5 N5 X5 b5
  -- rows
  walk_at "rd"
  refine ⟨_, rfl, _, rfl, by omega, by omega, fun lr hlr => lc_range (lo := 0) (n := n) (fun i H' => ∃ ds : List Addr, ds.length = i ∧ Same H6 H' ∧ H' lr = some (.lst (ds.map V.ref)) ∧ (∀ k d, ds[k]? = some d → H' d = some (.dK (rowV [(k, 0)])) ∧ H6 d = none ∧ d ≠ lr) ∧ ds.Nodup) ?_ ?_ ?_⟩
  · exact ⟨[], rfl, (Same.refl H6).new hlr, upd_same, fun k d e => (by simp at e), List.nodup_nil⟩
  · rintro i H' hi ⟨ds, hl, s, hD, hds, nd⟩
    refine ⟨rfl, ?_⟩
    rw [Int.zero_add]
    walk_at "re"
    show tDisp _ _ _ _
    intro p hp
    refine ⟨_, rfl, ?_⟩
    refine ⟨upd_same, [((Sum.inl (i : Int) : Key), V.int 0)], rfl, by show 1 ≤ 15; omega, ?_⟩
    have e1 : upd (upd H' p (.dK [])) p (.dK (mergeK [] [((Sum.inl (i : Int) : Key), V.int 0)])) = upd H' p (.dK (rowV [(i, 0)])) := by
      funext z
      unfold upd
      by_cases c : z = p
      · rw [if_pos c, if_pos c] <;> rfl
      · rw [if_neg c, if_neg c, if_neg c]
    rw [e1]
    have npl : p ≠ lr := (ne_of_none hD hp).symm
    refine ⟨_, by rw [upd_ne npl.symm]; exact hD, by rw [List.length_map, hl]; exact zlt (by omega), ds ++ [p], by rw [List.length_append, hl] <;> rfl, (s.new hp).up hlr, ?_, fun k d e => ?_, ?_⟩
    · rw [upd_same, List.map_append] <;> rfl
    · have hpn : H6 p = none := s.free hp
      by_cases c : k < ds.length
      · rw [List.getElem?_append_left c] at e
        obtain ⟨q1, q2, q3⟩ := hds k d e
        refine ⟨?_, q2, q3⟩
        rw [upd_ne q3, upd_ne (ne_of_none q1 hp)]
        exact q1
      · have hlt := (List.getElem?_eq_some_iff.mp e).1
        rw [List.length_append] at hlt
        have hlt : k < ds.length + 1 := hlt
        have ek : k = ds.length := by omega
        subst ek
        rw [List.getElem?_append_right (Nat.le_refl _), Nat.sub_self] at e
        have : p = d := Option.some.inj e
        subst this
        refine ⟨?_, hpn, npl⟩
        rw [upd_ne npl, upd_same, hl]
    · refine List.nodup_append.mpr ⟨nd, by simp, fun a ha c hc e => ?_⟩
      rw [List.mem_singleton.mp hc] at e
      subst e
      obtain ⟨k, hk, ek⟩ := List.getElem_of_mem ha
      have := (hds k a (by rw [List.getElem?_eq_getElem hk, ek])).1
      rw [hp] at this
      cases this
  rintro H7 ⟨ds, hl, s7, hR, hds, nd⟩
  have X7 := s7 _ _ X6
  have P7 := s7 _ _ P6
  have L7 := s7 _ _ L6
  have M7 := s7 _ _ M6
  have N7 := s7 _ _ N6
  have b7 := b6.trans (.of s7)
  have f3 : H lr = none := b6.f _ hlr
  have f4 : ∀ d ∈ ds, H d = none := fun d hd => by
    obtain ⟨k, hk, ek⟩ := List.getElem_of_mem hd
    exact b6.f _ (hds k d (by rw [List.getElem?_eq_getElem hk, ek])).2.1
  have n2 : lr ≠ ls := (ne_of_none L6 hlr).symm
  have n3 : lr ≠ lm := (ne_of_none M6 hlr).symm
  have hds : ∀ k d, ds[k]? = some d → H7 d = some (.dK (rowV [(k, 0)])) := fun k d e => (hds k d e).1
  clear X6 P6 L6 M6 N6 b6 s7 hlr
  walk_at "rd"
  refine ⟨x, _, dx, _, rfl, X7, cB.cl, cB.rows, by show 3 < 1000; omega, ?_⟩
  have b8 : But [x] H (upd H7 x (.ins g.Book dx [("size", .int (n : Int)), ("steps", .ref ls), ("made", .ref lm), ("rows", .ref lr)])) := step b7 X7
  have X8 : (upd H7 x (.ins g.Book dx [("size", .int (n : Int)), ("steps", .ref ls), ("made", .ref lm), ("rows", .ref lr)])) x = some (.ins g.Book dx [("size", .int (n : Int)), ("steps", .ref ls), ("made", .ref lm), ("rows", .ref lr)]) := upd_same
  have g7 : ∀ {a : Addr} {o : HO}, H7 a = some o → (∀ C dx fs, o ≠ .ins C dx fs) → (upd H7 x (.ins g.Book dx [("size", .int (n : Int)), ("steps", .ref ls), ("made", .ref lm), ("rows", .ref lr)])) a = some o := fun e q => by
    rw [upd_ne (ne_of e X7 fun z => q _ _ _ z)]; exact e
  have P8 := g7 P7 fun _ _ _ z => by cases z
  have L8 := g7 L7 fun _ _ _ z => by cases z
  have M8 := g7 M7 fun _ _ _ z => by cases z
  have N8 := g7 N7 fun _ _ _ z => by cases z
  have R8 := g7 hR fun _ _ _ z => by cases z
  have D8 : ∀ k d, ds[k]? = some d → _ := fun k d e => g7 (hds k d e) fun _ _ _ z => by cases z
  show sFld K (tVar 0) (tLst tNil) "kept" { nx := fun x H' => Q V.non H', rt := Q } (L2.start N_Book_init [V.ref x, V.int (n : Int)]) (upd H7 x (.ins g.Book dx [("size", .int (n : Int)), ("steps", .ref ls), ("made", .ref lm), ("rows", .ref lr)]))
  generalize upd H7 x (.ins g.Book dx [("size", .int (n : Int)), ("steps", .ref ls), ("made", .ref lm), ("rows", .ref lr)]) = H8 at *
  clear g7 P7 L7 M7 N7 X7 b7 hR hds
  -- kept
  walk_at "rd"
  refine ⟨zl (Nat.zero_le _), fun lk hlk => ?_⟩
  have s9 : Same H8 (upd H8 lk (.lst [])) := (Same.refl H8).new hlk
  have b9 : But [x] H (upd H8 lk (.lst [])) := b8.new hlk
  have f5 : H lk = none := b8.f _ hlk
  have n4 : lk ≠ ls := (ne_of_none L8 hlk).symm
  have n5 : lk ≠ lm := (ne_of_none M8 hlk).symm
  have n6 : lk ≠ lr := (ne_of_none R8 hlk).symm
  have X9 := s9 _ _ X8
  have P9 := s9 _ _ P8
  have L9 := s9 _ _ L8
  have M9 := s9 _ _ M8
  have N9 := s9 _ _ N8
  have R9 := s9 _ _ R8
  have D9 := fun k d e => s9 _ _ (D8 k d e)
  have K9 : (upd H8 lk (.lst [])) lk = some (.lst []) := upd_same
  generalize upd H8 lk (.lst []) = H9 at *
  clear hlk P8 L8 M8 N8 R8 D8 b8 s9 X8
  walk_at "rd"
  refine ⟨x, _, dx, _, rfl, X9, cB.cl, cB.kept, by show 4 < 1000; omega, ?_⟩
  have g9 : ∀ {a : Addr} {o : HO}, H9 a = some o → (∀ C dx fs, o ≠ .ins C dx fs) → (upd H9 x (.ins g.Book dx (bkF ⟨x, ls, lm, lr, lk, ds⟩ n))) a = some o := fun e q => by
    rw [upd_ne (ne_of e X9 fun z => q _ _ _ z)]; exact e
  refine k _ ⟨x, ls, lm, lr, lk, ds⟩ rfl ⟨⟨dx, upd_same⟩, ⟨_, g9 L9 (fun _ _ _ z => (by cases z)), .cons (g9 P9 (fun _ _ _ z => (by cases z))) .nil⟩, ⟨_, g9 M9 (fun _ _ _ z => (by cases z)), .cons (g9 N9 (fun _ _ _ z => (by cases z))) .nil⟩, g9 R9 (fun _ _ _ z => (by cases z)), hl, fun i d e => ?_, g9 K9 (fun _ _ _ z => (by cases z)), ?_, nd⟩ (step b9 X9) fun a ha hne => ?_
  · have hi : i < n := by
      have := (List.getElem?_eq_some_iff.mp e).1
      rw [← hl]; exact this
    have e2 : (Bk.new n).row i = [(i, 0)] := by
      unfold Bk.row Bk.new
      rw [List.getD_eq_getElem?_getD, List.getElem?_map, List.getElem?_range hi] <;> rfl
    rw [e2]
    exact g9 (D9 i d e) fun _ _ _ z => by cases z
  · show [ls, lm, lr, lk].Nodup
    simp only [List.nodup_cons, List.mem_cons, List.not_mem_nil, or_false, not_or, List.nodup_nil, and_true, not_false_eq_true]
    exact ⟨⟨n1.symm, n2.symm, n4.symm⟩, ⟨n3.symm, n5.symm⟩, n6.symm⟩
  · unfold Ad.G at ha
    simp only [List.mem_cons] at ha
    rcases ha with rfl | rfl | rfl | rfl | rfl | ha
    · exact absurd rfl hne
    · exact f1
    · exact f2
    · exact f3
    · exact f5
    · exact f4 a ha
end Shf

/-! rooms -/
namespace Shf
open PySem L2
structure RA where
  r : Addr
  l : Addr
  A : Ad
def RA.F (R : RA) : List Addr := R.l :: R.A.F
def RA.G (R : RA) : List Addr := R.r :: R.l :: R.A.G
theorem RA.fg (R : RA) : ∀ a ∈ R.F, a ∈ R.G := fun a h => by
  rcases List.mem_cons.mp h with h | h
  · exact List.mem_cons_of_mem _ (by rw [h]; exact List.mem_cons_self)
  · exact List.mem_cons_of_mem _ (List.mem_cons_of_mem _ (R.A.fg a h))
def rmF (R : RA) (n : Nat) : List (Str × V) := [("size", .int (n : Int)), ("told", .ref R.l), ("book", .ref R.A.b)]
structure RoomAt (g : Gd) (H : Hp) (R : RA) (B : Bk) (moves : List (List Nat)) : Prop where
  ob : ∃ dx, H R.r = some (.ins g.Room dx (rmF R B.n))
  tl : ∃ vs, H R.l = some (.lst vs) ∧ LT H vs moves
  bk : BookAt g H R.A B
  nl : R.l ∉ R.A.G
  cl : Closed B moves
  mp : ∀ m ∈ moves, IsP B.n m
section
variable {g : Gd} {H H' : Hp} {R : RA} {B : Bk} {K : PySem.W.Frag} {Q : VK} {moves : List (List Nat)}
theorem RoomAt.fr (h : RoomAt g H R B moves) (e : ∀ a u, H a = some u → a ∈ R.G ∨ (∃ xs, u = .tup xs) → H' a = some u) : RoomAt g H' R B moves := by
  obtain ⟨⟨dx, ob⟩, ⟨vs, tl, lt⟩, bk, nl, cl, mp⟩ := h
  have tu : Tu H H' := fun p xs hp => e p _ hp (.inr ⟨xs, rfl⟩)
  refine ⟨⟨dx, e _ _ ob (.inl List.mem_cons_self)⟩, ⟨vs, e _ _ tl (.inl (List.mem_cons_of_mem _ List.mem_cons_self)), lt.tu tu⟩, bk.fr fun a u ha c => e a u ha (c.imp (fun z => List.mem_cons_of_mem _ (List.mem_cons_of_mem _ z)) id), nl, cl, mp⟩
theorem RoomAt.same (h : RoomAt g H R B moves) (s : Same H H') : RoomAt g H' R B moves := h.fr fun a u e _ => s a u e
theorem RoomAt.but {F : List Addr} (h : RoomAt g H R B moves) (b : But F H H') (d : ∀ a ∈ R.G, a ∉ F) : RoomAt g H' R B moves := h.fr fun a u e c => by
  rcases c with c | ⟨xs, rfl⟩
  · exact b.s a u e (d a c)
  · exact b.t a xs e
theorem RoomAt.out (h : RoomAt g H R B moves) {l : Addr} {o0 o : HO} (hl : H l = some o0) (nt : ∀ xs, o0 ≠ .tup xs) (n : l ∉ R.G) : RoomAt g (upd H l o) R B moves := h.fr fun a u e cc => by
  rw [upd_ne]
  · exact e
  · rintro rfl
    rcases cc with cc | ⟨xs, rfl⟩
    · exact n cc
    · rw [hl] at e; exact nt xs (Option.some.inj e)
theorem RoomAt.full (h : RoomAt g H R B moves) {a : Addr} (ha : a ∈ R.G) : ∃ u, H a = some u := by
  rcases List.mem_cons.mp ha with rfl | ha
  · obtain ⟨dx, ob⟩ := h.ob; exact ⟨_, ob⟩
  rcases List.mem_cons.mp ha with rfl | ha
  · obtain ⟨vs, tl, _⟩ := h.tl; exact ⟨_, tl⟩
  · exact h.bk.full ha
theorem RoomAt.nin (h : RoomAt g H R B moves) {a : Addr} (ha : H a = none) : a ∉ R.G := fun z => by
  obtain ⟨u, hu⟩ := h.full z
  rw [ha] at hu; cases hu
theorem RoomAt.n1 (h : RoomAt g H R B moves) : 1 ≤ B.n := h.cl.ok.h1
theorem RoomAt.n16 (h : RoomAt g H R B moves) : B.n ≤ 16 := h.cl.ok.h2
theorem RoomAt.f_size (h : RoomAt g H R B moves) (c : RmC K g) (q : Q (.int (B.n : Int)) H) : rFld K "size" (.ref R.r) H Q := by
  obtain ⟨dx, e⟩ := h.ob
  exact ⟨_, _, dx, _, _, rfl, e, c.cl, c.size, rfl, q⟩
theorem RoomAt.f_told (h : RoomAt g H R B moves) (c : RmC K g) (q : Q (.ref R.l) H) : rFld K "told" (.ref R.r) H Q := by
  obtain ⟨dx, e⟩ := h.ob
  exact ⟨_, _, dx, _, _, rfl, e, c.cl, c.told, rfl, q⟩
theorem RoomAt.f_book (h : RoomAt g H R B moves) (c : RmC K g) (q : Q (.ref R.A.b) H) : rFld K "book" (.ref R.r) H Q := by
  obtain ⟨dx, e⟩ := h.ob
  exact ⟨_, _, dx, _, _, rfl, e, c.cl, c.book, rfl, q⟩
theorem RoomAt.inst (h : RoomAt g H R B moves) {m : Str} {P : Prop} (hm : (rmF R B.n).lookup m = none) (q : P) : ∃ a dx fs, V.ref R.r = .ref a ∧ H a = some (.ins g.Room dx fs) ∧ fs.lookup m = none ∧ P := by
  obtain ⟨dx, e⟩ := h.ob
  exact ⟨_, dx, _, rfl, e, hm, q⟩
end
def sp_Room_init (K : PySem.W.Frag) (g : Gd) : Sp := fun vs H Q E => ∃ (x dx : Addr) (n : Int), vs = [.ref x, .int n] ∧ H x = some (.ins g.Room dx []) ∧ (¬ (1 ≤ n ∧ n ≤ 16) → E (.ref g.NoSize) none H) ∧
  ∀ m : Nat, n = (m : Int) → 1 ≤ m → m ≤ 16 → ∀ H' R, R.r = x → RoomAt g H' R (Bk.new m) [] → But [x] H H' → (∀ a ∈ R.G, a ≠ x → H a = none) → Q .non H'
theorem len_Room_init (K : PySem.W.Frag) (g : Gd) (vs : List V) (H : Hp) (Q : VK) (E : XK) (h : sp_Room_init K g vs H Q E) : vs.length = 2 := by obtain ⟨_, _, _, rfl, _⟩ := h; rfl
--@facts Room.__init__ r_Room
abbrev N_Room_init : List Str := ["self", "size"]
/-- Room.__init__ -/
def t_Room_init (K : PySem.W.Frag) (g : Gd) (E : XK) : TS :=
  (tSeq (tDrop (tCallS (sp_ask_size K g) (WE (wE E)) (tCons (tVar 1) tNil)))
    (tSeq (sFld K (tVar 0) (tVar 1) "size")
    (tSeq (sFld K (tVar 0) (tLst tNil) "told")
    (sFld K (tVar 0) (tMakeS g.Book (sp_Book_init K g) (fun _ => E0) (tCons (tVar 1) tNil)) "book"))))
theorem pure_Room_init {K : PySem.W.Frag} {g : Gd} (cR : RmC K g) (vs : List V) (H : Hp) (Q : VK) (E : XK) (h : sp_Room_init K g vs H Q E) : Rd1 (t_Room_init K g E) N_Room_init vs H Q := by
  obtain ⟨x, dx, n, rfl, hx, en, k⟩ := h
  unfold t_Room_init
  walk_at "rd"
  refine ⟨n, rfl, fun hn => ?_, fun c => en c⟩
  obtain ⟨m, rfl⟩ : ∃ m : Nat, n = (m : Int) := ⟨n.toNat, by omega⟩
  have k := k m rfl (by omega) (by omega)
  walk_at "rd"
  refine ⟨x, _, dx, _, rfl, hx, cR.cl, cR.size, by show 0 < 1000; omega, ?_⟩
  have X1 : (upd H x (.ins g.Room dx [("size", .int (m : Int))])) x = some (.ins g.Room dx [("size", .int (m : Int))]) := upd_same
  have b1 : But [x] H (upd H x (.ins g.Room dx [("size", .int (m : Int))])) := (But.refl _ _).up hx (fun _ z => by cases z) (List.mem_singleton.mpr rfl)
  show tSeq _ _ _ _ (upd H x (.ins g.Room dx [("size", .int (m : Int))]))
  generalize upd H x (.ins g.Room dx [("size", .int (m : Int))]) = H1 at *
  walk_at "rd"
  refine ⟨zl (Nat.zero_le _), fun l hl => ?_⟩
  have f1 : H l = none := b1.f _ hl
  have s2 : Same H1 (upd H1 l (.lst [])) := (Same.refl H1).new hl
  have X2 := s2 _ _ X1
  have L2' : (upd H1 l (.lst [])) l = some (.lst []) := upd_same
  have b2 := b1.trans (.of s2)
  generalize upd H1 l (.lst []) = H2 at *
  walk_at "rd"
  refine ⟨x, _, dx, _, rfl, X2, cR.cl, cR.told, by show 1 < 1000; omega, ?_⟩
  have X3 : (upd H2 x (.ins g.Room dx [("size", .int (m : Int)), ("told", .ref l)])) x = some (.ins g.Room dx [("size", .int (m : Int)), ("told", .ref l)]) := upd_same
  have b3 : But [x] H (upd H2 x (.ins g.Room dx [("size", .int (m : Int)), ("told", .ref l)])) := b2.up X2 (fun _ z => by cases z) (List.mem_singleton.mpr rfl)
  have L3 : (upd H2 x (.ins g.Room dx [("size", .int (m : Int)), ("told", .ref l)])) l = some (.lst []) := by rw [upd_ne (ne_of L2' X2 fun z => by cases z)]; exact L2'
  show sFld K (tVar 0) (tMakeS g.Book (sp_Book_init K g) (fun _ => E0) (tCons (tVar 1) tNil)) "book" { nx := fun x H' => Q V.non H', rt := Q } (L2.start N_Room_init [V.ref x, V.int (m : Int)]) (upd H2 x (.ins g.Room dx [("size", .int (m : Int)), ("told", .ref l)]))
  generalize upd H2 x (.ins g.Room dx [("size", .int (m : Int)), ("told", .ref l)]) = H3 at *
  walk_at "rd"
  intro b db hb hdb hne
  have s4 : Same H3 (upd (upd H3 db (.own b)) b (.ins g.Book db [])) := ((Same.refl H3).new hdb).up hb
  refine ⟨b, db, m, rfl, by omega, by omega, upd_same, fun H' A eA hB b5 fr => ⟨rfl, ?_⟩⟩
  have s5 : Same H3 H' := fun a u e => b5.s a u (s4 _ _ e) fun z => by
    rw [List.mem_singleton.mp z] at e
    rw [hb] at e; cases e
  have X5 := s5 _ _ X3
  have L5 := s5 _ _ L3
  have frA : ∀ a ∈ A.G, H3 a = none := fun a ha => by
    by_cases c : a = b
    · rw [c]; exact hb
    · exact s4.free (fr a ha c)
  walk_at "rd"
  refine ⟨x, _, dx, _, rfl, X5, cR.cl, cR.book, by show 2 < 1000; omega, ?_⟩
  have b6 : But [x] H (upd H' x (.ins g.Room dx (rmF ⟨x, l, A⟩ m))) := (b3.trans (.of s5)).up X5 (fun _ z => by cases z) (List.mem_singleton.mpr rfl)
  have e6 : (upd H' x (.ins g.Room dx (putF "book" (.ref b) [("size", .int (m : Int)), ("told", .ref l)]))) = upd H' x (.ins g.Room dx (rmF ⟨x, l, A⟩ m)) := by rw [← eA] <;> rfl
  show Q .non (upd H' x (.ins g.Room dx (putF "book" (.ref b) [("size", .int (m : Int)), ("told", .ref l)])))
  rw [e6]
  have xn : x ∉ A.G := fun z => by
    have := frA x z
    rw [X3] at this; cases this
  refine k _ ⟨x, l, A⟩ rfl ⟨⟨dx, upd_same⟩, ⟨[], ?_, .nil⟩, hB.out X5 (fun _ z => by cases z) xn, fun z => ?_, new_closed (by omega) (by omega), fun m hm => (List.not_mem_nil hm).elim⟩ b6 fun a ha hne => ?_
  · rw [upd_ne (ne_of L5 X5 fun z => by cases z)]; exact L5
  · have := frA l z
    rw [L3] at this; cases this
  · rcases List.mem_cons.mp ha with ha | ha
    · exact absurd ha hne
    rcases List.mem_cons.mp ha with ha | ha
    · rw [ha]; exact f1
    · exact b3.f _ (frA a ha)
/-- Room(n), of a size that there is -/
theorem make_room {K : PySem.W.Frag} {g : Gd} {H : Hp} {Q : VK} {E : XK} {n : Nat} (h1 : 1 ≤ n) (h2 : n ≤ 16) (k : ∀ R H', Same H H' → RoomAt g H' R (Bk.new n) [] → (∀ a ∈ R.G, H a = none) → Q (.ref R.r) H') :
    rMake g.Room (sp_Room_init K g) E [.int (n : Int)] H Q := fun x dx hx hdx hne => by
  have s : Same H (upd (upd H dx (.own x)) x (.ins g.Room dx [])) := ((Same.refl H).new hdx).up hx
  refine ⟨x, dx, n, rfl, upd_same, fun c => absurd (by omega) c, fun m em _ _ H' R eR hR b fr => ⟨rfl, ?_⟩⟩
  obtain rfl : n = m := by omega
  have s2 : Same H H' := fun a u e => b.s a u (s _ _ e) fun z => by
    rw [List.mem_singleton.mp z] at e
    rw [hx] at e; cases e
  have := k R H' s2 hR fun a ha => by
    by_cases c : a = x
    · rw [c]; exact hx
    · exact s.free (fr a ha c)
  rw [eR] at this
  exact this
def sp_Room_ask (K : PySem.W.Frag) (g : Gd) : Sp := fun vs H Q E => ∃ (R : RA) (B : Bk) (moves : List (List Nat)) (q : Addr) (a : List Int), vs = [.ref R.r, .ref q] ∧ RoomAt g H R B moves ∧ SqT K H q (vI a) ∧ a.length ≤ 1000 ∧
  (SeatB a = false → E (.ref g.NoSeating) none H) ∧ (SeatB a = true → a.length ≠ B.n → E (.ref g.OtherSize) none H) ∧ (SeatB a = true → a.length = B.n → Q .non H)
theorem len_Room_ask (K : PySem.W.Frag) (g : Gd) (vs : List V) (H : Hp) (Q : VK) (E : XK) (h : sp_Room_ask K g vs H Q E) : vs.length = 2 := by obtain ⟨_, _, _, _, _, rfl, _⟩ := h; rfl
--@facts Room.ask r_Room
abbrev N_Room_ask : List Str := ["self", "a"]
/-- Room.ask -/
def t_Room_ask (K : PySem.W.Frag) (g : Gd) (E : XK) : TS :=
  (tSeq (tDrop (tCallS (sp_ask_seating K g) (WE (wE E)) (tCons (tVar 1) tNil)))
    (tIfS (tTest (tOp rNe (tCB (rLenQ K) (tCons (tVar 1) tNil)) (tFld K (tVar 0) "size"))) (tRaiseW (wE E) g.OtherSize) tNext))
theorem pure_Room_ask {K : PySem.W.Frag} {g : Gd} (cR : RmC K g) (vs : List V) (H : Hp) (Q : VK) (E : XK) (h : sp_Room_ask K g vs H Q E) : Rd1 (t_Room_ask K g E) N_Room_ask vs H Q := by
  obtain ⟨R, B, moves, q, a, rfl, hR, hq, hl, e1, e2, k⟩ := h
  unfold t_Room_ask
  walk_at "rd"
  refine ⟨q, a, rfl, hq, hl, fun ca => ?_, fun c => e1 c⟩
  walk_at "rd"
  refine len_TI hq ?_
  walk_at "rd"
  refine hR.f_size cR ?_
  walk_at "rd"
  refine if_nd (fun c => ?_) (fun c => ?_)
  · exact e2 ca (by omega)
  · exact k ca (by omega)
/-- asked with a seating of the size -/
theorem ask_ok {K : PySem.W.Frag} {g : Gd} {H : Hp} {Q : VK} {E : XK} {R : RA} {B : Bk} {moves : List (List Nat)} {q : Addr} {a : List Nat} (hR : RoomAt g H R B moves) (hq : SqT K H q (vN a)) (pa : IsP B.n a) (k : Q .non H) : sp_Room_ask K g [.ref R.r, .ref q] H Q E := by
  have h := hR.n16
  have hl : (a.map fun (x : Nat) => (x : Int)).length = B.n := by rw [List.length_map, pa.len]
  have ho := seatB_N pa hR.n1 hR.n16
  exact ⟨R, B, moves, q, _, rfl, hR, by rw [← vN_eq]; exact hq, by omega, fun c => (by rw [ho] at c; cases c), fun _ c => absurd hl c, fun _ _ => k⟩
def sp_Room_put_move (K : PySem.W.Frag) (g : Gd) : Sp := fun vs H Q E => ∃ (R : RA) (B : Bk) (moves : List (List Nat)) (q : Addr) (a : List Int), vs = [.ref R.r, .ref q] ∧ RoomAt g H R B moves ∧ H q = some (.tup (vI a)) ∧ a.length ≤ 1000 ∧ moves.length ≤ 200 ∧
  (SeatB a = false → E (.ref g.NoSeating) none H) ∧ (SeatB a = true → a.length ≠ B.n → E (.ref g.OtherSize) none H) ∧ (SeatB a = true → a.length = B.n → moves.length = 200 → E (.ref g.TooMany) none H) ∧
  ∀ m, a = m.map (fun (x : Nat) => (x : Int)) → IsP B.n m → moves.length < 200 → ∀ H' B', RoomAt g H' R B' (moves ++ [m]) → But R.F H H' → B'.n = B.n → Ext B B' → Q (.bl (decide (B.kept.length < B'.kept.length))) H'
theorem len_Room_put_move (K : PySem.W.Frag) (g : Gd) (vs : List V) (H : Hp) (Q : VK) (E : XK) (h : sp_Room_put_move K g vs H Q E) : vs.length = 2 := by obtain ⟨_, _, _, _, _, rfl, _⟩ := h; rfl
--@facts Room.put_move r_Room
abbrev N_Room_put_move : List Str := ["self", "move", "at"]
/-- Room.put_move -/
def t_Room_put_move (K : PySem.W.Frag) (g : Gd) (E : XK) : TS :=
  (tSeq (tDrop (tMethS g.Room "ask" (sp_Room_ask K g) (WE (wE E)) (tVar 0) (tCons (tVar 1) tNil)))
    (tSeq (tIfS (tTest (tOp rEq (tCB (rLenQ K) (tCons (tFld K (tVar 0) "told") tNil)) (tC (.int 200)))) (tRaiseW (wE E) g.TooMany) tNext)
    (tSeq (tAsg (tMethS g.Book "note" (sp_Book_note K g) (fun _ => E0) (tFld K (tVar 0) "book") (tCons (tTup (tCons (tC (.str "move")) (tCons (tCB (rLenQ K) (tCons (tFld K (tVar 0) "told") tNil)) tNil))) (tCons (tVar 1) tNil))) (gName 2))
    (tSeq (tDrop (tBM K "list" rAppend (tFld K (tVar 0) "told") (tCons (tVar 1) tNil)))
    (tRet (tMethS g.Book "close" (sp_Book_close K g) (fun _ => E0) (tFld K (tVar 0) "book") (tCons (tVar 2) tNil)))))))
theorem pure_Room_put_move {K : PySem.W.Frag} {g : Gd} (cR : RmC K g) (vs : List V) (H : Hp) (Q : VK) (E : XK) (h : sp_Room_put_move K g vs H Q E) : Rd1 (t_Room_put_move K g E) N_Room_put_move vs H Q := by
  obtain ⟨R, B, moves, q, a, rfl, hR, hq, hl, hml, e1, e2, e3, k⟩ := h
  obtain ⟨vs, hv, hvl⟩ := hR.tl
  unfold t_Room_put_move
  walk_at "rd"
  refine hR.inst (by rfl) ?_
  walk_at "rd"
  refine ⟨R, B, moves, q, a, rfl, hR, sqT hq, hl, fun c => e1 c, fun c1 c2 => e2 c1 c2, fun ca cl => ?_⟩
  walk_at "rd"
  refine hR.f_told cR ?_
  walk_at "rd"
  refine len_L (sqL hv) ?_
  rw [hvl.len]
  walk_at "rd"
  refine if_d (fun c => ?_) (fun c => ?_)
  · exact e3 ca cl (by omega)
  obtain ⟨m, pm, em, _, _⟩ := seatB_is ca
  rw [cl] at pm
  have k := k m em pm (by omega)
  rw [em, ← vN_eq] at hq
  walk_at "rd"
  refine hR.f_book cR ?_
  refine hR.bk.inst (by rfl) ?_
  walk_at "rd"
  refine hR.f_told cR ?_
  walk_at "rd"
  refine len_L (sqL hv) ?_
  rw [hvl.len]
  walk_at "rd"
  refine ⟨zl (by show 2 ≤ 100000; omega), fun p hp => ?_⟩
  have s1 : Same H (upd H p (.tup [.str "move", .int (moves.length : Int)])) := (Same.refl H).new hp
  have stb := hR.cl.ok.stb
  have oklen := hR.cl.ok.len
  have h16 := hR.n16
  have kl := kept_le hR.cl.ok.pre
  have kl2 : B.kept.length * (2 * B.n) ≤ 120 * (2 * 16) := Nat.mul_le_mul kl (by omega)
  walk_at "rd"
  refine ⟨R.A, B, .move moves.length, m, p, q, rfl, hR.bk.same s1, upd_same, s1 _ _ hq, by omega, by omega, fun H2 hB2 b2 => ?_⟩
  have b02 := (But.of (F := R.A.F) s1).trans b2
  have hlF : R.l ∉ R.A.F := fun z => hR.nl (R.A.fg _ z)
  have hv2 := b02.s _ _ hv hlF
  obtain ⟨dx, ob⟩ := hR.ob
  have ob2 : H2 R.r = some (.ins g.Room dx (rmF R B.n)) := b02.s _ _ ob fun z => by
    obtain ⟨o, h1, _, h2⟩ := hR.bk.nt z
    rw [ob] at h1; exact h2 _ _ _ (Option.some.inj h1).symm
  walk_at "rd"
  refine ⟨_, _, dx, _, _, rfl, ob2, cR.cl, cR.told, rfl, isL (sqL hv2), ?_⟩
  walk_at "rd"
  refine app_V hv2 (by rw [hvl.len]; omega) ?_
  have tu3 : Tu H2 (upd H2 R.l (.lst (vs ++ [.ref q]))) := fun a xs e => by rw [upd_ne (ne_of e hv2 fun z => by cases z)]; exact e
  have hB3 := hB2.out (o := .lst (vs ++ [.ref q])) hv2 (fun _ z => by cases z) hR.nl
  have ob3 : (upd H2 R.l (.lst (vs ++ [.ref q]))) R.r = some (.ins g.Room dx (rmF R B.n)) := by rw [upd_ne (ne_of ob2 hv2 fun z => by cases z)]; exact ob2
  have hv3 : (upd H2 R.l (.lst (vs ++ [.ref q]))) R.l = some (.lst (vs ++ [.ref q])) := upd_same
  have lt3 : LT (upd H2 R.l (.lst (vs ++ [.ref q]))) (vs ++ [.ref q]) (moves ++ [m]) := ((hvl.tu b02.t).tu tu3).snoc (tu3 _ _ (b02.t _ _ hq))
  have b3 : But R.F H (upd H2 R.l (.lst (vs ++ [.ref q]))) := (b02.sub fun a ha => List.mem_cons_of_mem _ ha).up hv2 (fun _ z => by cases z) List.mem_cons_self
  generalize upd H2 R.l (.lst (vs ++ [.ref q])) = H3 at *
  walk_at "rd"
  refine ⟨_, _, dx, _, _, rfl, ob3, cR.cl, cR.book, rfl, ?_⟩
  refine hB3.inst (by rfl) ?_
  walk_at "rd"
  obtain ⟨S1, S2, S3⟩ := putMove_spec hR.cl pm
  refine ⟨R.A, _, moves ++ [m], B.steps.length, rfl, hB3, start_inv hR.cl pm, by rw [List.length_append]; show _ + 1 ≤ _; omega, fun H4 hB4 b4 => ?_⟩
  have hB4 : BookAt g H4 R.A (B.putMove moves.length m).1 := hB4
  have e4 : ((B.note (.move moves.length) m).close B.steps.length).2 = decide (B.kept.length < (B.putMove moves.length m).1.kept.length) := S3
  rw [e4]
  refine k H4 _ ⟨⟨dx, ?_⟩, ⟨_, b4.s _ _ hv3 hlF, lt3.tu b4.t⟩, hB4, hR.nl, S1, fun x hx => ?_⟩ (b3.trans (b4.sub fun a ha => List.mem_cons_of_mem _ ha)) S2.en S2
  · rw [S2.en]
    exact b4.s _ _ ob3 fun z => by
      obtain ⟨o, h1, _, h2⟩ := hB3.nt z
      rw [ob3] at h1; exact h2 _ _ _ (Option.some.inj h1).symm
  · rw [S2.en]
    rcases List.mem_append.mp hx with hx | hx
    · exact hR.mp x hx
    · rw [List.mem_singleton.mp hx]; exact pm
/-- a seating of the size put in -/
theorem put_ok {K : PySem.W.Frag} {g : Gd} {H : Hp} {Q : VK} {E : XK} {R : RA} {B : Bk} {moves : List (List Nat)} {q : Addr} {a : List Nat} (hR : RoomAt g H R B moves) (hq : H q = some (.tup (vN a))) (pa : IsP B.n a) (hm : moves.length < 200)
    (k : ∀ H' B', RoomAt g H' R B' (moves ++ [a]) → But R.F H H' → B'.n = B.n → Ext B B' → Q (.bl (decide (B.kept.length < B'.kept.length))) H') : sp_Room_put_move K g [.ref R.r, .ref q] H Q E := by
  have h := hR.n16
  have hl : (a.map fun (x : Nat) => (x : Int)).length = B.n := by rw [List.length_map, pa.len]
  have ho := seatB_N pa hR.n1 hR.n16
  refine ⟨R, B, moves, q, _, rfl, hR, by rw [← vN_eq]; exact hq, by omega, by omega, fun c => (by rw [ho] at c; cases c), fun _ c => absurd hl c, fun _ _ c => absurd hm (by omega), fun m em pm _ => ?_⟩
  rw [vInj] at em
  subst em
  exact k
def manyTo (B : Bk) (i : Nat) : Nat := (B.rows.take i).foldl (fun m r => m * r.length) 1
def manyB (B : Bk) : Nat := manyTo B B.rows.length
theorem manyTo_succ {B : Bk} {i : Nat} (h : i < B.rows.length) : manyTo B (i + 1) = manyTo B i * (B.row i).length := by
  unfold manyTo
  have e : B.rows[i]? = some (B.row i) := by unfold Bk.row; rw [List.getD_eq_getElem?_getD, List.getElem?_eq_getElem h] <;> rfl
  rw [take_more e, List.foldl_append] <;> rfl
def sp_Room_how_many (K : PySem.W.Frag) (g : Gd) : Sp := fun vs H Q _ => ∃ (R : RA) (B : Bk) (moves : List (List Nat)), vs = [.ref R.r] ∧ RoomAt g H R B moves ∧ Q (.int (manyB B : Int)) H
theorem len_Room_how_many (K : PySem.W.Frag) (g : Gd) (vs : List V) (H : Hp) (Q : VK) (E : XK) (h : sp_Room_how_many K g vs H Q E) : vs.length = 1 := by obtain ⟨_, _, _, rfl, _⟩ := h; rfl
--@facts Room.how_many r_Room r_Book
abbrev N_Room_how_many : List Str := ["self", "many", "row"]
/-- Room.how_many -/
def t_Room_how_many (K : PySem.W.Frag) (g : Gd) (E : XK) : TS :=
  (tSeq (tAsg (tC (.int 1)) (gName 1))
    (tSeq (tFor (iList K (tFld K (tFld K (tVar 0) "book") "rows")) (gName 2) (tAsg (tOp rMulI (tVar 1) (tCB rLenDk (tCons (tVar 2) tNil))) (gName 1)))
    (tRet (tVar 1))))
theorem pure_Room_how_many {K : PySem.W.Frag} {g : Gd} (cR : RmC K g) (cB : BkC K g) (vs : List V) (H : Hp) (Q : VK) (E : XK) (h : sp_Room_how_many K g vs H Q E) : Rd1 (t_Room_how_many K g E) N_Room_how_many vs H Q := by
  obtain ⟨R, B, moves, rfl, hR, k⟩ := h
  have h16 := hR.n16
  have rl := hR.cl.ok.rl
  have hlen : (R.A.ds.map V.ref).length = B.rows.length := by rw [List.length_map, hR.bk.dl, rl]
  unfold t_Room_how_many
  walk_at "rd"
  refine hR.f_book cR ?_
  walk_at "rd"
  refine hR.bk.f_rows cB ?_
  refine ⟨R.A.lr, rfl, ⟨_, sqL hR.bk.rw⟩, for_list (K := K) (a := R.A.lr) (xs := R.A.ds.map V.ref) (fun i σ H' => H' = H ∧ ∃ x, σ = [some (.ref R.r), some (.int (manyTo B i : Int)), x]) ?_ ?_ ?_ ?_⟩
  · exact ⟨rfl, _, rfl⟩
  · rintro i σ H' _ ⟨rfl, _⟩; exact sqL hR.bk.rw
  · rintro i z σ H' hz ⟨rfl, x, rfl⟩
    rw [List.getElem?_map] at hz
    cases ed : R.A.ds[i]? with
    | none => rw [ed] at hz; cases hz
    | some d =>
      rw [ed] at hz
      cases hz
      have hd := hR.bk.ro i d ed
      have hi : i < B.rows.length := by
        have := (List.getElem?_eq_some_iff.mp ed).1
        rw [hR.bk.dl] at this
        omega
      have hrow := row_len hR.cl.ok.pre (k := i) (by omega)
      show tAsg _ _ _ (List.set _ 2 (some (V.ref d))) _
      walk_at "rd"
      refine ⟨d, _, rfl, hd, ?_⟩
      rw [rowV_len]
      refine mul_I (.inr ⟨by omega, by omega⟩) ?_
      walk_at "rd"
      refine ⟨rfl, some (.ref d), ?_⟩
      rw [manyTo_succ hi, Int.natCast_mul]
      rfl
  · rintro σ H' ⟨rfl, x, rfl⟩
    rw [hlen]
    walk_at "rd"
    exact k
end Shf

/-! what is reached: the closed table holds just what the moves lead to -/
namespace Shf
open PySem L2
/-! ### what moves lead to -/
inductive Gen (n : Nat) (moves : List (List Nat)) : List Nat → Prop
  | one : Gen n moves (List.range n)
  | mul {a m : List Nat} : Gen n moves a → m ∈ moves → Gen n moves (jn a m)
section
variable {n : Nat} {moves : List (List Nat)}
theorem Gen.isP (hm : ∀ m ∈ moves, IsP n m) {a : List Nat} (h : Gen n moves a) : IsP n a := by
  induction h with
  | one => exact isP_id n
  | mul _ m ih => exact isP_jn ih (hm _ m)
theorem jn_assocP {a b c : List Nat} (ha : IsP n a) (hb : IsP n b) : jn (jn a b) c = jn a (jn b c) := jn_assoc fun x hx => by rw [hb.len]; exact ha.lt hx
theorem jn_idP {a : List Nat} (ha : IsP n a) : jn a (List.range n) = a := jn_id fun x hx => ha.lt hx
theorem id_jnP {a : List Nat} (ha : IsP n a) : jn (List.range n) a = a := by
  have := id_jn a
  rw [ha.len] at this
  exact this
theorem Gen.jn (hm : ∀ m ∈ moves, IsP n m) {a b : List Nat} (ha : Gen n moves a) (hb : Gen n moves b) : Gen n moves (Shf.jn a b) := by
  have pa := ha.isP hm
  induction hb with
  | one => rw [jn_idP pa]; exact ha
  | @mul b m hb mm ih =>
    rw [← jn_assocP pa (hb.isP hm)]
    exact .mul ih mm
theorem Gen.move (hm : ∀ m ∈ moves, IsP n m) {m : List Nat} (h : m ∈ moves) : Gen n moves m := by
  have := Gen.mul (.one (n := n)) h
  rw [id_jnP (hm m h)] at this
  exact this
theorem Gen.pw (hm : ∀ m ∈ moves, IsP n m) {a : List Nat} (h : Gen n moves a) : ∀ j, Gen n moves (Shf.pw a j)
  | 0 => by show Gen n moves (List.range a.length); rw [(h.isP hm).len]; exact .one
  | j + 1 => Gen.jn hm (Gen.pw hm h j) h
theorem inv_uniq {a b : List Nat} (ha : IsP n a) (hb : IsP n b) (e : Shf.jn b a = List.range n) : b = trn a := by
  have h1 : Shf.jn (Shf.jn b a) (trn a) = trn a := by rw [e, id_jnP (isP_trn ha)]
  rw [jn_assocP hb ha, jn_trn ha, jn_idP hb] at h1
  exact h1
theorem Gen.trn (hm : ∀ m ∈ moves, IsP n m) {a : List Nat} (h : Gen n moves a) : Gen n moves (Shf.trn a) := by
  have pa := h.isP hm
  have hp : 0 < ageN a := ageN_pos
  have e := (pw_age pa (ageN a)).mpr (Nat.dvd_refl _)
  obtain ⟨k, hk⟩ : ∃ k, ageN a = k + 1 := ⟨ageN a - 1, by omega⟩
  rw [hk] at e
  have : Shf.pw a k = Shf.trn a := inv_uniq pa (isP_pw pa k) e
  rw [← this]
  exact h.pw hm k
theorem Gen.mono {more : List (List Nat)} (hs : ∀ m ∈ moves, m ∈ more) {a : List Nat} (h : Gen n moves a) : Gen n more a := by
  induction h with
  | one => exact .one
  | mul _ m ih => exact .mul ih (hs _ m)
end
/-! ### all that a book has made is led to -/
section
variable {B : Bk} {moves : List (List Nat)}
theorem made_gen (h : BkOk B moves) (hm : ∀ m ∈ moves, IsP B.n m) : ∀ (i : Nat), i < B.made.length → Gen B.n moves (B.mk' i) := by
  intro i
  induction i using Nat.strongRecOn with
  | ind i ih =>
    intro hi
    have hs : i < B.steps.length := by rw [h.len]; exact hi
    have v := h.val i _ (List.getElem?_eq_getElem hs)
    have em : ∀ a, B.made[i]? = some a → B.mk' i = a := fun a e => by unfold Bk.mk'; rw [List.getD_eq_getElem?_getD, e] <;> rfl
    cases e : B.steps[i] with
    | rest => rw [e] at v; rw [em _ v]; exact .one
    | move j =>
      rw [e] at v
      obtain ⟨a, h1, h2⟩ := v
      rw [em _ h2]
      exact Gen.move hm (List.mem_of_getElem? h1)
    | back j =>
      rw [e] at v
      obtain ⟨h1, h2⟩ := v
      rw [em _ h2]
      exact (ih j h1 (by omega)).trn hm
    | thn j l =>
      rw [e] at v
      obtain ⟨h1, h2, h3⟩ := v
      rw [em _ h3]
      exact (ih j h1 (by omega)).jn hm (ih l h2 (by omega))
/-! ### sifting from a seat on -/
/-- it leaves the seats below k and goes back from k on -/
inductive Sk (B : Bk) : Nat → List Nat → Prop
  | last : Sk B B.n (List.range B.n)
  | step {k j i : Nat} {b : List Nat} : k < B.n → rowGet (B.row k) j = some i → Sk B (k + 1) b → Sk B k (jn b (B.mk' i))
theorem Sk.le {k : Nat} {a : List Nat} (s : Sk B k a) : k ≤ B.n := by
  cases s with
  | last => exact Nat.le_refl _
  | step h _ _ => omega
theorem Sk.isP (h : BkOk B moves) {k : Nat} {a : List Nat} (s : Sk B k a) : IsP B.n a := by
  induction s with
  | last => exact isP_id _
  | step hk hg _ ih => exact isP_jn ih (h.mkP ((h.row _ hk).en _ _ (rowGet_mem hg)).1)
theorem Sk.fix (h : BkOk B moves) {k : Nat} {a : List Nat} (s : Sk B k a) : Fix k a := by
  induction s with
  | last => exact fix_id _ _ (Nat.le_refl _)
  | @step k j i b hk hg s ih =>
    have en := (h.row _ hk).en _ _ (rowGet_mem hg)
    exact Fix.jn (s.isP h) (by omega) (fun x hx => ih x (by omega)) en.2.1
/-- what is reached from a seat on sends it where the entry does -/
theorem Sk.at (h : BkOk B moves) {k j i : Nat} {b : List Nat} (hk : k < B.n) (hg : rowGet (B.row k) j = some i) (s : Sk B (k + 1) b) : (jn b (B.mk' i)).getD k 0 = j := by
  have en := (h.row _ hk).en _ _ (rowGet_mem hg)
  rw [jn_get (by rw [(s.isP h).len]; exact hk), s.fix h k (Nat.lt_succ_self k)]
  exact en.2.2.1
theorem go_went : ∀ (f k : Nat) (left w w' : List Nat), (B.siftGo f k left w).1 = (B.siftGo f k left w').1
  | 0, _, _, _, _ => rfl
  | f + 1, k, left, w, w' => by
    unfold Bk.siftGo
    cases rowGet (B.row k) (left.getD k 0) with
    | none => rfl
    | some i => exact go_went f (k + 1) _ _ _
/-- Sk and the sifting are one -/
theorem Sk.go (h : BkOk B moves) {k : Nat} {a : List Nat} (s : Sk B k a) : ∀ f w, k + f = B.n → (B.siftGo f k a w).1 = B.n := by
  induction s with
  | last =>
    intro f w e
    obtain rfl : f = 0 := by omega
    rfl
  | @step k j i b hk hg s ih =>
    intro f w e
    obtain ⟨f', rfl⟩ : ∃ f', f = f' + 1 := ⟨f - 1, by omega⟩
    have en := (h.row _ hk).en _ _ (rowGet_mem hg)
    have pm := h.mkP en.1
    unfold Bk.siftGo
    rw [s.at h hk hg, hg]
    show (B.siftGo f' (k + 1) (jn (jn b (B.mk' i)) (trn (B.mk' i))) (w ++ [i])).1 = B.n
    rw [jn_assocP (s.isP h) pm, jn_trn pm, jn_idP (s.isP h)]
    exact ih f' _ (by omega)
theorem Sk.of (h : BkOk B moves) : ∀ (f k : Nat) (a w : List Nat), k + f = B.n → IsP B.n a → Fix k a → (B.siftGo f k a w).1 = B.n → Sk B k a
  | 0, k, a, w, e, pa, fa, _ => by
    obtain rfl : k = B.n := by omega
    rw [Fix.id_of pa fa]
    exact .last
  | f + 1, k, a, w, e, pa, fa, hs => by
    unfold Bk.siftGo at hs
    cases c : rowGet (B.row k) (a.getD k 0) with
    | none =>
      rw [c] at hs
      have : k = B.n := hs
      omega
    | some i =>
      rw [c] at hs
      have hk : k < B.n := by omega
      have en := (h.row _ hk).en _ _ (rowGet_mem c)
      have pm := h.mkP en.1
      have pl := isP_jn pa (isP_trn pm)
      have fl : Fix (k + 1) (jn a (trn (B.mk' i))) := fun x hx => by
        rw [jn_get (by rw [pa.len]; omega)]
        by_cases cx : x = k
        · rw [cx, ← en.2.2.1]
          exact trn_get pm (by omega)
        · have := fa.jn pa (by omega) (Fix.trn pm (by omega) en.2.1) x (by omega)
          rw [jn_get (by rw [pa.len]; omega)] at this
          exact this
      have s := Sk.of h f (k + 1) _ _ (by omega) pl fl hs
      have e2 : jn (jn a (trn (B.mk' i))) (B.mk' i) = a := by rw [jn_assocP pa (isP_trn pm), trn_jn pm, jn_idP pa]
      rw [← e2]
      exact .step hk c s
theorem sifts_sk (h : BkOk B moves) {a : List Nat} (pa : IsP B.n a) : Sifts B a ↔ Sk B 0 a :=
  ⟨fun s => Sk.of h B.n 0 a [] (by omega) pa (fun x hx => absurd hx (Nat.not_lt_zero x)) s, fun s => s.go h B.n [] (by omega)⟩
/-- what leaves the seats below k goes back from there -/
theorem Sk.up (h : BkOk B moves) : ∀ {k : Nat} {a : List Nat}, Sk B k a → ∀ {m : Nat}, k ≤ m → m ≤ B.n → Fix m a → Sk B m a := by
  intro k a s m hkm hm fa
  have pa := s.isP h
  obtain ⟨f, hf⟩ : ∃ f, k + f = B.n := ⟨B.n - k, by have := s.le; omega⟩
  have hs := s.go h f [] hf
  clear s
  induction f generalizing k with
  | zero =>
    obtain rfl : m = k := by omega
    exact Sk.of h 0 m a [] hf pa fa hs
  | succ f ih =>
    by_cases c : m = k
    · subst c
      exact Sk.of h (f + 1) m a [] hf pa fa hs
    · unfold Bk.siftGo at hs
      rw [fa k (by omega), h.get0 (by omega)] at hs
      have e : jn a (trn (B.mk' 0)) = a := by rw [h.mk0, trn_id, jn_idP pa]
      have hs : (B.siftGo f (k + 1) (jn a (trn (B.mk' 0))) ([] ++ [0])).1 = B.n := hs
      rw [e] at hs
      exact ih (k := k + 1) (by omega) (by omega) (by rw [go_went (w' := [0])]; exact hs)
theorem Sk.down (h : BkOk B moves) {k : Nat} {a : List Nat} (s : Sk B k a) : ∀ (d m : Nat), m + d = k → Sk B m a
  | 0, m, e => by obtain rfl : m = k := by omega
                  exact s
  | d + 1, m, e => by
    have := s.le
    have hm : m < B.n := by omega
    have t := Sk.step hm (h.get0 hm) (Sk.down h s d (m + 1) (by omega))
    rw [h.mk0, jn_idP (s.isP h)] at t
    exact t
/-- the entries of a row go back from there -/
theorem Sk.entry (h : BkOk B moves) {k j i : Nat} (hk : k < B.n) (hg : rowGet (B.row k) j = some i) : Sk B k (B.mk' i) := by
  have s0 : Sk B (k + 1) (List.range B.n) := by
    have := Sifts.id h.pre
    rw [sifts_sk h (isP_id _)] at this
    exact this.up h (Nat.zero_le _) (by omega) (fix_id _ _ (by omega))
  have := Sk.step hk hg s0
  rw [id_jnP (h.mkP ((h.row _ hk).en _ _ (rowGet_mem hg)).1)] at this
  exact this
/-- two entries, one behind the other -/
theorem Sk.two (C : Closed B moves) {k j i k' j' i' : Nat} (hk : k < B.n) (hg : rowGet (B.row k) j = some i) (hkk : k ≤ k') (hk' : k' < B.n) (hg' : rowGet (B.row k') j' = some i') : Sk B k (jn (B.mk' i) (B.mk' i')) := by
  have h := C.ok
  have e1 := (h.row _ hk).en _ _ (rowGet_mem hg)
  have e2 := (h.row _ hk').en _ _ (rowGet_mem hg')
  have p1 := h.mkP e1.1
  have p2 := h.mkP e2.1
  have fx : Fix k (jn (B.mk' i) (B.mk' i')) := e1.2.1.jn p1 (by omega) fun x hx => e2.2.1 x (by omega)
  have s0 : Sk B 0 (jn (B.mk' i) (B.mk' i')) := by
    rw [← sifts_sk h (isP_jn p1 p2)]
    rcases e1.2.2.2 with z | z
    · rw [z, h.mk0, id_jnP p2, sifts_sk h p2]
      exact (Sk.entry h hk' hg').down h k' 0 (by omega)
    · rcases e2.2.2.2 with z' | z'
      · rw [z', h.mk0, jn_idP p1, sifts_sk h p1]
        exact (Sk.entry h hk hg).down h k 0 (by omega)
      · exact C.cl _ z _ z'
  exact s0.up h (Nat.zero_le _) (by omega) fx
/-- what goes back from k on is closed: downwards by the seat -/
theorem Sk.jn (C : Closed B moves) : ∀ (d k : Nat), k + d = B.n → ∀ {a b : List Nat}, Sk B k a → Sk B k b → Sk B k (Shf.jn a b)
  | 0, k, e, a, b, sa, sb => by
    have h := C.ok
    obtain rfl : k = B.n := by omega
    have pb := sb.isP h
    rw [Fix.id_of pb (sb.fix h), jn_idP (sa.isP h)]
    exact sa
  | d + 1, k, e, a, b, sa, sb => by
    have h := C.ok
    have ih := fun {a b : List Nat} (x : Sk B (k + 1) a) (y : Sk B (k + 1) b) => Sk.jn C d (k + 1) (by omega) x y
    -- an entry of a row from k on behind it
    have one : ∀ {a : List Nat}, Sk B k a → ∀ {k' j' i' : Nat}, k ≤ k' → k' < B.n → rowGet (B.row k') j' = some i' → Sk B k (Shf.jn a (B.mk' i')) := by
      intro a sa k' j' i' hkk hk' hg'
      cases sa with
      | last => omega
      | @step _ j i b hk hg s =>
        have pm := h.mkP ((h.row _ hk).en _ _ (rowGet_mem hg)).1
        rw [jn_assocP (s.isP h) pm]
        have t := Sk.two C hk hg hkk hk' hg'
        revert t
        generalize Shf.jn (B.mk' i) (B.mk' i') = z
        intro t
        cases t with
        | last => omega
        | @step _ j2 i2 c hk2 hg2 s2 =>
          rw [← jn_assocP (s.isP h) (s2.isP h)]
          exact .step hk hg2 (ih s s2)
    -- what goes back from m on behind it
    have many : ∀ (f m : Nat), m + f = B.n → k ≤ m → ∀ {c : List Nat}, Sk B m c → ∀ {a : List Nat}, Sk B k a → Sk B k (Shf.jn a c) := by
      intro f
      induction f with
      | zero =>
        intro m em hkm c sc a sa
        obtain rfl : m = B.n := by omega
        rw [Fix.id_of (sc.isP h) (sc.fix h), jn_idP (sa.isP h)]
        exact sa
      | succ f ihf =>
        intro m em hkm c sc a sa
        cases sc with
        | last => omega
        | @step _ j i b hm hg s =>
          rw [← jn_assocP (sa.isP h) (s.isP h)]
          exact one (ihf (m + 1) (by omega) (by omega) s sa) hkm hm hg
    exact many (d + 1) k (by omega) (Nat.le_refl _) sb sa
/-- what the table leads back to rest is what the moves lead to -/
theorem sk_gen (C : Closed B moves) (hm : ∀ m ∈ moves, IsP B.n m) {k : Nat} {a : List Nat} (s : Sk B k a) : Gen B.n moves a := by
  induction s with
  | last => exact .one
  | step hk hg _ ih => exact ih.jn hm (made_gen C.ok hm _ ((C.ok.row _ hk).en _ _ (rowGet_mem hg)).1)
theorem gen_sk (C : Closed B moves) (hm : ∀ m ∈ moves, IsP B.n m) {a : List Nat} (g : Gen B.n moves a) : Sk B 0 a := by
  induction g with
  | one => exact (sifts_sk C.ok (isP_id _)).mp (Sifts.id C.ok.pre)
  | mul _ m ih => exact Sk.jn C B.n 0 (by omega) ih ((sifts_sk C.ok (hm _ m)).mp (C.mv _ m))
theorem sifts_gen (C : Closed B moves) (hm : ∀ m ∈ moves, IsP B.n m) {a : List Nat} (pa : IsP B.n a) : Sifts B a ↔ Gen B.n moves a :=
  ⟨fun s => sk_gen C hm ((sifts_sk C.ok pa).mp s), fun g => (sifts_sk C.ok pa).mpr (gen_sk C hm g)⟩
/-! ### how many -/
def elems (B : Bk) : Nat → Nat → List (List Nat)
  | 0, _ => [List.range B.n]
  | f + 1, k => (B.row k).flatMap fun p => (elems B f (k + 1)).map fun b => jn b (B.mk' p.2)
theorem elems_mem (h : BkOk B moves) : ∀ (f k : Nat), k + f = B.n → ∀ {a : List Nat}, a ∈ elems B f k ↔ Sk B k a
  | 0, k, e, a => by
    obtain rfl : k = B.n := by omega
    constructor
    · intro m; rw [List.mem_singleton.mp m]; exact .last
    · intro s
      refine List.mem_singleton.mpr ?_
      exact Fix.id_of (s.isP h) (s.fix h)
  | f + 1, k, e, a => by
    have ih := fun {a : List Nat} => elems_mem h f (k + 1) (by omega) (a := a)
    show a ∈ (B.row k).flatMap _ ↔ _
    rw [List.mem_flatMap]
    constructor
    · rintro ⟨p, hp, ha⟩
      obtain ⟨b, hb, rfl⟩ := List.mem_map.mp ha
      exact .step (by omega) (rowGet_of (h.row k (by omega)).nd (j := p.1) hp) (ih.mp hb)
    · intro s
      cases s with
      | last => omega
      | @step _ j i b hk hg s => exact ⟨(j, i), rowGet_mem hg, List.mem_map.mpr ⟨b, ih.mpr s, rfl⟩⟩
theorem jn_cancel {n : Nat} {a b c : List Nat} (ha : IsP n a) (hb : IsP n b) (hc : IsP n c) (e : jn a c = jn b c) : a = b := by
  have : jn (jn a c) (trn c) = jn (jn b c) (trn c) := by rw [e]
  rw [jn_assocP ha hc, jn_assocP hb hc, jn_trn hc, jn_idP ha, jn_idP hb] at this
  exact this
theorem elems_nd (h : BkOk B moves) : ∀ (f k : Nat), k + f = B.n → (elems B f k).Nodup
  | 0, k, e => by show [_].Nodup; simp
  | f + 1, k, e => by
    have ih := elems_nd h f (k + 1) (by omega)
    have hk : k < B.n := by omega
    have ro := h.row k hk
    show ((B.row k).flatMap fun p => (elems B f (k + 1)).map fun b => jn b (B.mk' p.2)).Nodup
    have key : ∀ r : List (Nat × Nat), (r.map (·.1)).Nodup → (∀ p ∈ r, p ∈ B.row k) → (r.flatMap fun p => (elems B f (k + 1)).map fun b => jn b (B.mk' p.2)).Nodup ∧ ∀ a ∈ (r.flatMap fun p => (elems B f (k + 1)).map fun b => jn b (B.mk' p.2)), a.getD k 0 ∈ r.map (·.1) := by
      intro r
      induction r with
      | nil => intro _ _; exact ⟨List.nodup_nil, fun a ha => by cases ha⟩
      | cons p r ihr =>
        intro nd hs
        have nd : (p.1 :: r.map (·.1)).Nodup := nd
        obtain ⟨n1, n2⟩ := List.nodup_cons.mp nd
        obtain ⟨r1, r2⟩ := ihr n2 fun q hq => hs q (List.mem_cons_of_mem _ hq)
        have hp := hs p List.mem_cons_self
        have pm := h.mkP (ro.en _ _ hp).1
        have at_ : ∀ b ∈ elems B f (k + 1), (jn b (B.mk' p.2)).getD k 0 = p.1 := fun b hb => Sk.at h hk (rowGet_of ro.nd (j := p.1) hp) ((elems_mem h f (k + 1) (by omega)).mp hb)
        rw [List.flatMap_cons]
        refine ⟨List.nodup_append.mpr ⟨?_, r1, fun x hx y hy e => ?_⟩, fun a ha => ?_⟩
        · refine List.pairwise_map.mpr (List.Pairwise.imp_of_mem (fun {a b} ha hb hne e => hne ?_) ih)
          exact jn_cancel (((elems_mem h f (k + 1) (by omega)).mp ha).isP h) (((elems_mem h f (k + 1) (by omega)).mp hb).isP h) pm e
        · obtain ⟨b, hb, rfl⟩ := List.mem_map.mp hx
          have := r2 y hy
          rw [← e, at_ b hb] at this
          exact n1 this
        · rcases List.mem_append.mp ha with ha | ha
          · obtain ⟨b, hb, rfl⟩ := List.mem_map.mp ha
            rw [at_ b hb]
            exact List.mem_cons_self
          · exact List.mem_cons_of_mem _ (r2 a ha)
    exact (key _ ro.nd fun _ h => h).1
/-- the product of the rows' lengths from k on -/
def belowK (B : Bk) : Nat → Nat → Nat
  | 0, _ => 1
  | f + 1, k => (B.row k).length * belowK B f (k + 1)
theorem elems_len (B : Bk) : ∀ f k, (elems B f k).length = belowK B f k
  | 0, _ => rfl
  | f + 1, k => by
    show ((B.row k).flatMap _).length = (B.row k).length * belowK B f (k + 1)
    rw [← elems_len B f (k + 1)]
    generalize B.row k = r
    induction r with
    | nil => rw [List.length_nil, Nat.zero_mul] <;> rfl
    | cons p r ih =>
      rw [List.flatMap_cons, List.length_append, ih, List.length_map, List.length_cons, Nat.add_mul, Nat.one_mul, Nat.add_comm]
/-- two lists without twice the same, of the same: as long -/
theorem nd_len {α : Type} [DecidableEq α] {a b : List α} (ha : a.Nodup) (hb : b.Nodup) (h : ∀ x, x ∈ a ↔ x ∈ b) : a.length = b.length :=
  Nat.le_antisymm (nd_sub_len ha fun x hx => (h x).mp hx) (nd_sub_len hb fun x hx => (h x).mpr hx)
end
theorem many_below {B : Bk} (rl : B.rows.length = B.n) : ∀ (f k : Nat), k + f = B.n → manyTo B k * belowK B f k = manyB B
  | 0, k, e => by
    obtain rfl : k = B.n := by omega
    show manyTo B B.n * 1 = manyTo B B.rows.length
    rw [Nat.mul_one, rl]
  | f + 1, k, e => by
    rw [← many_below rl f (k + 1) (by omega), manyTo_succ (by omega)]
    show manyTo B k * ((B.row k).length * belowK B f (k + 1)) = _
    rw [Nat.mul_assoc]
theorem many_eq {B : Bk} (rl : B.rows.length = B.n) : manyB B = belowK B B.n 0 := by
  have := many_below rl B.n 0 (by omega)
  rw [← this]
  show 1 * _ = _
  rw [Nat.one_mul]
/-- how many there are -/
theorem many_gen {B : Bk} {moves : List (List Nat)} (C : Closed B moves) (hm : ∀ m ∈ moves, IsP B.n m) {l : List (List Nat)} (nd : l.Nodup) (hl : ∀ a, a ∈ l ↔ Gen B.n moves a) : manyB B = l.length := by
  rw [many_eq C.ok.rl, ← elems_len]
  refine nd_len (elems_nd C.ok B.n 0 (by omega)) nd fun x => ?_
  rw [elems_mem C.ok B.n 0 (by omega), hl]
  exact ⟨fun s => sk_gen C hm s, fun g => gen_sk C hm g⟩
end Shf

/-! all rows of moves, worked out; law k09 -/
namespace Shf
open PySem L2
theorem row_len_le {B B' : Bk} {moves moves' : List (List Nat)} (h : BkPre B moves) (h' : BkPre B' moves') (e : Ext B B') {k : Nat} (hk : k < B.n) : 1 ≤ (B.row k).length ∧ (B.row k).length ≤ (B'.row k).length := by
  have ro := h.row k hk
  have ro' := h'.row k (by rw [e.en]; exact hk)
  refine ⟨List.length_pos_of_mem ro.hd, ?_⟩
  have := nd_sub_len (m := (B'.row k).map (·.1)) ro.nd fun x hx => by
    obtain ⟨p, hp, rfl⟩ := List.mem_map.mp hx
    have := rowGet_mem (e.rg k p.1 p.2 (rowGet_of ro.nd hp))
    exact List.mem_map.mpr ⟨_, this, rfl⟩
  rw [List.length_map, List.length_map] at this
  exact this
def sumK (B : Bk) : Nat → Nat → Nat
  | 0, _ => 0
  | f + 1, k => (B.row k).length + sumK B f (k + 1)
theorem sumK_eq {B : Bk} : ∀ (f k : Nat), k + f = B.rows.length → sumK B f k = ((B.rows.drop k).map List.length).sum
  | 0, k, e => by rw [List.drop_eq_nil_of_le (by omega)] <;> rfl
  | f + 1, k, e => by
    have hk : k < B.rows.length := by omega
    have e1 : B.row k = B.rows[k] := by unfold Bk.row; rw [List.getD_eq_getElem?_getD, List.getElem?_eq_getElem hk] <;> rfl
    rw [List.drop_eq_getElem_cons hk]
    show (B.row k).length + sumK B f (k + 1) = B.rows[k].length + ((B.rows.drop (k + 1)).map List.length).sum
    rw [e1, sumK_eq f (k + 1) (by omega)]
theorem belowK_pos {B : Bk} {moves : List (List Nat)} (h : BkPre B moves) : ∀ (f k : Nat), k + f = B.n → 0 < belowK B f k
  | 0, _, _ => Nat.zero_lt_one
  | f + 1, k, e => Nat.mul_pos (row_len_le h h (Ext.refl B) (by omega)).1 (belowK_pos h f (k + 1) (by omega))
theorem below_grow {B B' : Bk} {moves moves' : List (List Nat)} (h : BkPre B moves) (h' : BkPre B' moves') (e : Ext B B') : ∀ (f k : Nat), k + f = B.n →
    sumK B f k ≤ sumK B' f k ∧ belowK B f k ≤ belowK B' f k ∧ (sumK B f k = sumK B' f k → belowK B f k = belowK B' f k) ∧ (sumK B f k < sumK B' f k → belowK B f k < belowK B' f k)
  | 0, _, _ => ⟨Nat.le_refl _, Nat.le_refl _, fun _ => rfl, fun z => absurd z (Nat.lt_irrefl _)⟩
  | f + 1, k, ek => by
    obtain ⟨a1, a2⟩ := row_len_le h h' e (k := k) (by omega)
    obtain ⟨i1, i2, i3, i4⟩ := below_grow h h' e f (k + 1) (by omega)
    have p0 := belowK_pos h f (k + 1) (by omega)
    show (B.row k).length + sumK B f (k + 1) ≤ (B'.row k).length + sumK B' f (k + 1) ∧ (B.row k).length * belowK B f (k + 1) ≤ (B'.row k).length * belowK B' f (k + 1) ∧
      ((B.row k).length + sumK B f (k + 1) = (B'.row k).length + sumK B' f (k + 1) → (B.row k).length * belowK B f (k + 1) = (B'.row k).length * belowK B' f (k + 1)) ∧
      ((B.row k).length + sumK B f (k + 1) < (B'.row k).length + sumK B' f (k + 1) → (B.row k).length * belowK B f (k + 1) < (B'.row k).length * belowK B' f (k + 1))
    refine ⟨by omega, Nat.mul_le_mul a2 i2, fun z => ?_, fun z => ?_⟩
    · rw [i3 (by omega), show (B.row k).length = (B'.row k).length by omega]
    · by_cases c : (B.row k).length < (B'.row k).length
      · exact Nat.lt_of_lt_of_le (Nat.mul_lt_mul_of_pos_right c p0) (Nat.mul_le_mul_left _ i2)
      · have c : (B.row k).length = (B'.row k).length := by omega
        rw [← c]
        exact Nat.mul_lt_mul_of_pos_left (i4 (by omega)) a1
theorem many_grow {B B' : Bk} {moves moves' : List (List Nat)} (h : BkPre B moves) (h' : BkPre B' moves') (e : Ext B B') : decide (B.kept.length < B'.kept.length) = decide (manyB B < manyB B') := by
  have en := e.en
  have s1 := sumK_eq (B := B) B.n 0 (by rw [h.rl]; omega)
  have s2 := sumK_eq (B := B') B.n 0 (by rw [h'.rl]; omega)
  rw [List.drop_zero] at s1 s2
  have c1 := h.cnt
  have c2 := h'.cnt
  obtain ⟨g1, g2, g3, g4⟩ := below_grow h h' e B.n 0 (by omega)
  rw [many_eq h.rl, many_eq h'.rl, en]
  refine dec_iff ⟨fun z => g4 (by omega), fun z => ?_⟩
  refine Decidable.byContradiction fun c => ?_
  have := g3 (by omega)
  omega
/-! ### how many there can be -/
def fct : Nat → Nat
  | 0 => 1
  | n + 1 => (n + 1) * fct n
def permsF : Nat → List Nat → List (List Nat)
  | 0, _ => [[]]
  | f + 1, l => l.flatMap fun x => (permsF f (l.erase x)).map (x :: ·)
theorem permsF_len : ∀ (f : Nat) (l : List Nat), l.length = f → (permsF f l).length = fct f
  | 0, _, _ => rfl
  | f + 1, l, h => by
    show (l.flatMap _).length = (f + 1) * fct f
    have key : ∀ r : List Nat, (∀ x ∈ r, x ∈ l) → (r.flatMap fun x => (permsF f (l.erase x)).map (x :: ·)).length = r.length * fct f := by
      intro r
      induction r with
      | nil => intro _; rw [List.length_nil, Nat.zero_mul] <;> rfl
      | cons x r ih =>
        intro hs
        rw [List.flatMap_cons, List.length_append, ih fun y hy => hs y (List.mem_cons_of_mem _ hy), List.length_map, permsF_len f (l.erase x) (by rw [List.length_erase_of_mem (hs x List.mem_cons_self), h] <;> rfl), List.length_cons, Nat.add_mul, Nat.one_mul, Nat.add_comm]
    rw [key l fun _ h => h, h]
theorem permsF_mem : ∀ (f : Nat) (l a : List Nat), a.length = f → a.Perm l → a ∈ permsF f l
  | 0, l, a, ha, _ => by rw [List.length_eq_zero_iff.mp ha]; exact List.mem_singleton.mpr rfl
  | f + 1, l, [], ha, _ => by cases ha
  | f + 1, l, x :: a, ha, hp => by
    have hx : x ∈ l := hp.mem_iff.mp List.mem_cons_self
    have hp2 : a.Perm (l.erase x) := List.Perm.cons_inv (hp.trans (List.perm_cons_erase hx))
    show _ ∈ l.flatMap _
    exact List.mem_flatMap.mpr ⟨x, hx, List.mem_map.mpr ⟨a, permsF_mem f _ a (by simpa using ha) hp2, rfl⟩⟩
theorem nd_fct {n : Nat} {l : List (List Nat)} (nd : l.Nodup) (h : ∀ a ∈ l, IsP n a) : l.length ≤ fct n := by
  rw [← permsF_len n (List.range n) List.length_range]
  exact nd_sub_len nd fun a ha => permsF_mem n _ a (h a ha).len (h a ha)
theorem fct_le {n : Nat} (h : n ≤ 7) : fct n ≤ 5040 := (by decide : ∀ n < 8, fct n ≤ 5040) n (by omega)
/-! ### a tuple within a list of tuples -/
def dN (a : List Nat) : PyData := dT (a.map fun (x : Nat) => (x : Int))
theorem dp_LT {K : PySem.W.Frag} {H : Hp} {l : Addr} {vs : List V} {as : List (List Nat)} (hl : SqL K H l vs) (h : LT H vs as) : Dp K H (.ref l) (.list (as.map dN)) := by
  refine .lst hl ?_
  clear hl
  induction h with
  | nil => exact .nil
  | @cons p a vs as hp _ ih =>
    refine .cons ?_ ih
    have : H p = some (.tup (vI (a.map fun (x : Nat) => (x : Int)))) := by rw [← vN_eq]; exact hp
    exact dp_T (sqT this)
theorem shp_LT (as : List (List Nat)) : SeqAt.shaped (.list (as.map dN)) = true := by
  refine shp ?_ ?_
  · unfold PyData.canLay0
    exact canAll_map (fun a => can_T _) as
  · unfold PyData.depth
    have := depthAll_map (f := dN) (n := 1) (fun a => dep_T _) as
    omega
theorem any_dN (a : List Nat) (as : List (List Nat)) : (as.map dN).any (fun z => PyData.eqv z (dN a)) = decide (a ∈ as) := by
  induction as with
  | nil => rfl
  | cons b as ih =>
    rw [List.map_cons, List.any_cons, ih]
    have e : PyData.eqv (dN b) (dN a) = decide (b = a) := by
      unfold dN
      rw [eqv_T]
      exact dec_iff vInj
    rw [e]
    by_cases c : b = a
    · subst c
      rw [decide_eq_true rfl, Bool.true_or, decide_eq_true List.mem_cons_self]
    · rw [decide_eq_false c, Bool.false_or]
      refine dec_iff ⟨fun z => List.mem_cons_of_mem _ z, fun z => ?_⟩
      rcases List.mem_cons.mp z with z | z
      · exact absurd z.symm c
      · exact z
section
variable {K : PySem.W.Frag} {H : Hp} {Q : VK} {p l : Addr} {a : List Nat} {vs : List V} {as : List (List Nat)}
theorem in_LT (hp : SqT K H p (vN a)) (hl : SqL K H l vs) (h : LT H vs as) (k : Q (.bl (decide (a ∈ as))) H) : rInD K (.ref p) (.ref l) H Q := by
  rw [vN_eq] at hp
  exact ⟨dN a, as.map dN, dp_T hp, dp_LT hl h, shp_T _, shp_LT as, by rw [any_dN]; exact k⟩
theorem notin_LT (hp : SqT K H p (vN a)) (hl : SqL K H l vs) (h : LT H vs as) (k : Q (.bl (!decide (a ∈ as))) H) : rNotInD K (.ref p) (.ref l) H Q := by
  rw [vN_eq] at hp
  exact ⟨dN a, as.map dN, dp_T hp, dp_LT hl h, shp_T _, shp_LT as, by rw [any_dN]; exact k⟩
end
def sp_L_reached (K : PySem.W.Frag) (g : Gd) : Sp := fun vs H Q _ => ∃ (m : Addr) (n : Nat) (mv : List V) (moves : List (List Nat)), vs = [.ref m, .int (n : Int)] ∧ SqL K H m mv ∧ LT H mv moves ∧ (∀ a ∈ moves, IsP n a) ∧ n ≤ 7 ∧
  ∀ as, as.Nodup → (∀ a, a ∈ as ↔ Gen n moves a) → NewLT H as Q
theorem len_L_reached (K : PySem.W.Frag) (g : Gd) (vs : List V) (H : Hp) (Q : VK) (E : XK) (h : sp_L_reached K g vs H Q E) : vs.length = 2 := by obtain ⟨_, _, _, _, rfl, _⟩ := h; rfl
abbrev N_L_reached : List Str := ["moves", "size", "found", "at", "move", "made"]
/-- _law_reached -/
def t_L_reached (K : PySem.W.Frag) (g : Gd) (E : XK) : TS :=
  (tSeq (tAsg (tLst (tCons (tTupRg (tRg1 (tVar 1))) tNil)) (gName 2))
    (tSeq (tAsg (tC (.int 0)) (gName 3))
    (tSeq (tWhile (tTest (tOp rLtI (tVar 3) (tCB (rLenQ K) (tCons (tVar 2) tNil)))) (tSeq (tFor (iList K (tVar 0)) (gName 4) (tSeq (tAsg (tCallS (sp_L_joined K g) (fun _ => E0) (tCons (tOp (rIxL K) (tVar 2) (tVar 3)) (tCons (tVar 4) tNil))) (gName 5))
    (tIfS (tTest (tOp (rNotInD K) (tVar 5) (tVar 2))) (tDrop (tBM K "list" rAppend (tVar 2) (tCons (tVar 5) tNil))) tNext)))
    (tAsg (tOp rAddI (tVar 3) (tC (.int 1))) (gName 3))))
    (tRet (tVar 2)))))
theorem pure_L_reached {K : PySem.W.Frag} {g : Gd} (vs : List V) (H : Hp) (Q : VK) (E : XK) (h : sp_L_reached K g vs H Q E) : Rd1 (t_L_reached K g E) N_L_reached vs H Q := by
  obtain ⟨m, n, mv, moves, rfl, hm, hml, pm, hn, k⟩ := h
  have hf7 := fct_le hn
  unfold t_L_reached
  walk_at "rd"
  refine ⟨rgOk_N (by omega), fun p hp => ?_⟩
  rw [rgV_N]
  have s1 := (Same.refl H).new (o := .tup (vN (List.range n))) hp
  walk_at "rd"
  refine ⟨zl (by show 1 ≤ 100000; omega), fun f hf => ?_⟩
  have s2 := s1.new (o := .lst [.ref p]) hf
  have hf0 := s1.free hf
  have pp : (upd (upd H p (.tup (vN (List.range n)))) f (.lst [.ref p])) p = some (.tup (vN (List.range n))) := by rw [upd_ne (ne_of_none upd_same hf)]; exact upd_same
  walk_at "rd"
  refine w_while ⟨fun me σ H' => ∃ (at_ : Nat) (as : List (List Nat)) (vs : List V) (x y : Option V), me = fct n + 1 - at_ ∧ σ = [some (.ref m), some (.int (n : Int)), some (.ref f), some (.int (at_ : Int)), x, y] ∧ Same H H' ∧ H' f = some (.lst vs) ∧ LT H' vs as ∧ as.Nodup ∧
    (∀ a ∈ as, Gen n moves a) ∧ List.range n ∈ as ∧ at_ ≤ as.length ∧ (∀ j, j < at_ → ∀ a ∈ moves, jn (as.getD j []) a ∈ as), ⟨_, 0, [List.range n], [.ref p], none, none, rfl, rfl, s2, upd_same, .cons pp .nil, by simp, fun a ha => (by rw [List.mem_singleton.mp ha]; exact .one), List.mem_singleton.mpr rfl, Nat.zero_le _, fun j hj => absurd hj (Nat.not_lt_zero j)⟩, ?_⟩
  rintro me σ H1 ⟨at_, as, vs, x, y, rfl, rfl, s, hF, hLT, nd, hG, h1, hat, hcl⟩
  walk_at "rd"
  refine len_L (sqL hF) ?_
  rw [hLT.len]
  walk_at "rd"
  refine if_d (fun c => ?_) (fun c => ?_)
  · have c : at_ < as.length := by omega
    have hle := nd_fct nd fun a ha => (hG a ha).isP pm
    refine ⟨fun σ' H' => ∃ (as : List (List Nat)) (vs : List V) (x y : Option V), σ' = [some (.ref m), some (.int (n : Int)), some (.ref f), some (.int ((at_ + 1 : Nat) : Int)), x, y] ∧ Same H H' ∧ H' f = some (.lst vs) ∧ LT H' vs as ∧ as.Nodup ∧
      (∀ a ∈ as, Gen n moves a) ∧ List.range n ∈ as ∧ at_ + 1 ≤ as.length ∧ (∀ j, j < at_ + 1 → ∀ a ∈ moves, jn (as.getD j []) a ∈ as), ?_, ?_⟩
    · rintro σ' H' ⟨as, vs, x, y, h⟩
      exact ⟨_, by omega, at_ + 1, as, vs, x, y, rfl, h⟩
    walk_at "rd"
    refine ⟨m, rfl, ⟨_, s.lst hm⟩, for_list (K := K) (a := m) (xs := mv) (fun i σ H' => ∃ (as2 : List (List Nat)) (vs : List V) (x y : Option V), σ = [some (.ref m), some (.int (n : Int)), some (.ref f), some (.int (at_ : Int)), x, y] ∧ Same H H' ∧ H' f = some (.lst vs) ∧ LT H' vs as2 ∧ as2.Nodup ∧
      (∀ a ∈ as2, Gen n moves a) ∧ as <+: as2 ∧ (∀ a ∈ moves.take i, jn (as.getD at_ []) a ∈ as2)) ?_ ?_ ?_ ?_⟩
    · exact ⟨as, vs, x, y, rfl, s, hF, hLT, nd, hG, List.prefix_refl _, fun a ha => (by rw [List.take_zero] at ha; cases ha)⟩
    · rintro i σ H' _ ⟨_, _, _, _, _, s', _⟩
      exact s'.lst hm
    · rintro i z σ H2 hz ⟨as2, vs2, x2, y2, rfl, s2, hF2, hLT2, nd2, hG2, hpre, hdone⟩
      obtain ⟨q, a, rfl, hia, hq⟩ := (hml.mono s2).get' hz
      have pa := pm a (List.mem_of_getElem? hia)
      have c2 : at_ < as2.length := Nat.lt_of_lt_of_le c hpre.length_le
      have e2 : as2.getD at_ [] = as.getD at_ [] := prefix_getD hpre c
      have g0 : as2[at_]? = some (as.getD at_ []) := by rw [← e2, List.getD_eq_getElem?_getD, List.getElem?_eq_getElem c2] <;> rfl
      have pg := (hG2 _ (List.mem_of_getElem? g0)).isP pm
      obtain ⟨u, hu, hu2⟩ := hLT2.get g0
      show tSeq _ _ _ (List.set _ 4 (some (V.ref q))) H2
      walk_at "rd"
      refine ix_L (sqL hF2) hu rfl ?_
      walk_at "rd"
      refine ⟨u, q, _, a, rfl, sqT hu2, sqT hq, by rw [pg.len]; omega, fun w hw => by rw [pa.len]; exact pg.lt hw, fun r H3 s3 hr hr3 => ?_⟩
      have hF3 := s3 _ _ hF2
      walk_at "rd"
      refine notin_LT (sqT hr3) (sqL hF3) (hLT2.mono s3) ?_
      walk_at "rd"
      have tk := take_more hia
      refine if_nd (fun cn => ?_) (fun cn => ?_)
      · walk_at "rd"
        refine ⟨isL (sqL hF3), ?_⟩
        walk_at "rd"
        have hle2 := nd_fct nd2 fun a ha => (hG2 a ha).isP pm
        refine app_V hF3 (by rw [hLT2.len]; omega) ?_
        walk_at "rd"
        have gm : Gen n moves (jn (as.getD at_ []) a) := .mul (hG2 _ (List.mem_of_getElem? g0)) (List.mem_of_getElem? hia)
        have tu : ∀ {vv : List V} {aa : List (List Nat)}, LT H3 vv aa → LT (upd H3 f (.lst (vs2 ++ [.ref r]))) vv aa := fun h => h.upL hF3
        refine ⟨as2 ++ [jn (as.getD at_ []) a], vs2 ++ [.ref r], _, _, rfl, (s2.trans s3).up hf0, upd_same, (tu (hLT2.mono s3)).snoc (by rw [upd_ne (ne_of hr3 hF3 fun z => by cases z)]; exact hr3), ?_, fun b hb => ?_, hpre.trans (List.prefix_append _ _), fun b hb => ?_⟩
        · refine List.nodup_append.mpr ⟨nd2, by simp, fun b hb d hd e => ?_⟩
          rw [List.mem_singleton.mp hd] at e
          rw [e] at hb
          exact cn hb
        · rcases List.mem_append.mp hb with hb | hb
          · exact hG2 b hb
          · rw [List.mem_singleton.mp hb]; exact gm
        · rw [tk] at hb
          rcases List.mem_append.mp hb with hb | hb
          · exact List.mem_append_left _ (hdone b hb)
          · rw [List.mem_singleton.mp hb]; exact List.mem_append_right _ (List.mem_singleton.mpr rfl)
      · walk_at "rd"
        refine ⟨as2, vs2, _, _, rfl, s2.trans s3, hF3, hLT2.mono s3, nd2, hG2, hpre, fun b hb => ?_⟩
        rw [tk] at hb
        rcases List.mem_append.mp hb with hb | hb
        · exact hdone b hb
        · rw [List.mem_singleton.mp hb]; exact cn
    · rintro σ H2 ⟨as2, vs2, x2, y2, rfl, s2, hF2, hLT2, nd2, hG2, hpre, hdone⟩
      have hlm := hml.len
      rw [hlm, List.take_length] at hdone
      have hsub : ∀ a ∈ as, a ∈ as2 := fun a ha => hpre.subset ha
      have hle3 := hpre.length_le
      walk_at "rd"
      refine ⟨as2, vs2, _, _, rfl, s2, hF2, hLT2, nd2, hG2, hsub _ h1, by omega, fun j hj a ha => ?_⟩
      rw [prefix_getD hpre (by omega)]
      by_cases cj : j = at_
      · rw [cj]; exact hdone a ha
      · exact hsub _ (hcl j (by omega) a ha)
  · have e : at_ = as.length := by omega
    walk_at "rd"
    refine k as nd (fun a => ⟨fun ha => hG a ha, fun ga => ?_⟩) f H1 vs s hf0 hF hLT
    induction ga with
    | one => exact h1
    | @mul a b _ hb ih =>
      obtain ⟨j, hj, ej⟩ := List.getElem_of_mem ih
      have := hcl j (by omega) b hb
      rw [List.getD_eq_getElem?_getD, List.getElem?_eq_getElem hj] at this
      rw [← ej]
      exact this
end Shf

/-! numbers of seatings: mathematics alone -/
namespace Shf
open PySem L2
/-- a seating ahead of another, place by place -/
def LexLt (a b : List Nat) : Prop := ∃ k, k < a.length ∧ (∀ t, t < k → a.getD t 0 = b.getD t 0) ∧ a.getD k 0 < b.getD k 0
theorem LexLt.irrefl {a : List Nat} : ¬ LexLt a a := fun ⟨_, _, _, h⟩ => Nat.lt_irrefl _ h
theorem LexLt.asymm {a b : List Nat} (h : a.length = b.length) (x : LexLt a b) (y : LexLt b a) : False := by
  obtain ⟨k, k1, k2, k3⟩ := x
  obtain ⟨l, l1, l2, l3⟩ := y
  rcases Nat.lt_trichotomy k l with c | c | c
  · have := l2 k c; omega
  · subst c; omega
  · have := k2 l c; omega
theorem LexLt.trans {a b c : List Nat} (hab : a.length = b.length) (x : LexLt a b) (y : LexLt b c) : LexLt a c := by
  obtain ⟨k, k1, k2, k3⟩ := x
  obtain ⟨l, l1, l2, l3⟩ := y
  rcases Nat.lt_trichotomy k l with z | z | z
  · exact ⟨k, k1, fun t ht => (k2 t ht).trans (l2 t (by omega)), by rw [← l2 k z]; exact k3⟩
  · subst z; exact ⟨k, k1, fun t ht => (k2 t ht).trans (l2 t ht), by omega⟩
  · exact ⟨l, by omega, fun t ht => (k2 t (by omega)).trans (l2 t ht), by rw [k2 l z]; exact l3⟩
/-- the places of a row: where its entries send the seat in the end, with their steps, rising -/
def plcU (B : Bk) (k : Nat) (A : List Nat) : List (Nat × Nat) := (B.row k).map fun p => (A.getD p.1 0, p.2)
def plc (B : Bk) (k : Nat) (A : List Nat) : List (Nat × Nat) := (plcU B k A).mergeSort fun a b => decide (a.1 ≤ b.1)
def enumK (B : Bk) : Nat → Nat → List Nat → List (List Nat)
  | 0, _, A => [A]
  | f + 1, k, A => (plc B k A).flatMap fun p => enumK B f (k + 1) (jn (B.mk' p.2) A)
def enumB (B : Bk) : List (List Nat) := enumK B B.n 0 (List.range B.n)
def numF (B : Bk) : Nat → Nat → Nat → List Nat → List Nat
  | 0, _, _, A => A
  | f + 1, k, n, A => numF B f (k + 1) (n % belowK B f (k + 1)) (jn (B.mk' ((plc B k A).getD (n / belowK B f (k + 1)) (0, 0)).2) A)
/-- which entry of a row sends the seat there in the end -/
def pickR (r : List (Nat × Nat)) (A : List Nat) (v : Nat) : Option Nat := (r.find? fun p => decide (A.getD p.1 0 = v)).map (·.2)
def cntR (r : List (Nat × Nat)) (A : List Nat) (v : Nat) : Nat := (r.filter fun p => decide (A.getD p.1 0 < v)).length
def numO (B : Bk) : Nat → Nat → List Nat → List Nat → Option Nat
  | 0, _, _, _ => some 0
  | f + 1, k, A, a => match pickR (B.row k) A (a.getD k 0) with
    | none => none
    | some i => (numO B f (k + 1) (jn (B.mk' i) A) a).map fun t => cntR (B.row k) A (a.getD k 0) * belowK B f (k + 1) + t
section
variable {B : Bk} {moves : List (List Nat)}
theorem plc_perm (B : Bk) (k : Nat) (A : List Nat) : (plc B k A).Perm (plcU B k A) := List.mergeSort_perm _ _
theorem plc_le (B : Bk) (k : Nat) (A : List Nat) : (plc B k A).Pairwise fun a b => a.1 ≤ b.1 := by
  have := List.pairwise_mergeSort (le := fun a b : Nat × Nat => decide (a.1 ≤ b.1)) (fun a b c h1 h2 => by simp only [decide_eq_true_eq] at h1 h2 ⊢; omega) (fun a b => by simp only [Bool.or_eq_true, decide_eq_true_eq]; omega) (plcU B k A)
  exact this.imp fun h => of_decide_eq_true h
theorem plcU_nd (h : BkOk B moves) {k : Nat} (hk : k < B.n) {A : List Nat} (pA : IsP B.n A) : ((plcU B k A).map (·.1)).Nodup := by
  unfold plcU
  rw [List.map_map]
  have nd := (h.row k hk).nd
  have lt : ∀ p ∈ B.row k, p.1 < B.n := fun p hp => by
    have en := (h.row k hk).en p.1 p.2 hp
    rw [← en.2.2.1]
    exact (h.mkP en.1).getD_lt hk
  revert nd lt
  generalize B.row k = r
  intro nd lt
  induction r with
  | nil => exact List.nodup_nil
  | cons p r ih =>
    have nd : (p.1 :: r.map (·.1)).Nodup := nd
    obtain ⟨n1, n2⟩ := List.nodup_cons.mp nd
    refine List.nodup_cons.mpr ⟨fun z => ?_, ih n2 fun q hq => lt q (List.mem_cons_of_mem _ hq)⟩
    obtain ⟨q, hq, e⟩ := List.mem_map.mp z
    have e : A.getD q.1 0 = A.getD p.1 0 := e
    have := nd_getD pA.nd (by rw [pA.len]; exact lt q (List.mem_cons_of_mem _ hq)) (by rw [pA.len]; exact lt p List.mem_cons_self) e
    exact n1 (by rw [← this]; exact List.mem_map.mpr ⟨q, hq, rfl⟩)
theorem plc_nd (h : BkOk B moves) {k : Nat} (hk : k < B.n) {A : List Nat} (pA : IsP B.n A) : ((plc B k A).map (·.1)).Nodup := ((plc_perm B k A).map (·.1)).nodup_iff.mpr (plcU_nd h hk pA)
theorem plc_lt (h : BkOk B moves) {k : Nat} (hk : k < B.n) {A : List Nat} (pA : IsP B.n A) : (plc B k A).Pairwise fun a b => a.1 < b.1 := by
  have h1 := plc_le B k A
  have h2 := List.pairwise_map.mp (plc_nd h hk pA)
  exact (List.pairwise_and_iff.mpr ⟨h1, h2⟩).imp fun ⟨a, b⟩ => by omega
theorem nd_fst {l : List (Nat × Nat)} (nd : (l.map (·.1)).Nodup) {a b : Nat × Nat} (ha : a ∈ l) (hb : b ∈ l) (e : a.1 = b.1) : a = b := by
  induction l with
  | nil => cases ha
  | cons c l ih =>
    have nd : (c.1 :: l.map (·.1)).Nodup := nd
    obtain ⟨n1, n2⟩ := List.nodup_cons.mp nd
    rcases List.mem_cons.mp ha with ha | ha
    · rcases List.mem_cons.mp hb with hb | hb
      · rw [ha, hb]
      · exact absurd (List.mem_map.mpr ⟨b, hb, by rw [← e, ha]⟩) n1
    · rcases List.mem_cons.mp hb with hb | hb
      · exact absurd (List.mem_map.mpr ⟨a, ha, by rw [e, hb]⟩) n1
      · exact ih n2 ha hb
/-- what sorting makes is just that -/
theorem plc_uniq (h : BkOk B moves) {k : Nat} (hk : k < B.n) {A : List Nat} (pA : IsP B.n A) {ys : List (Nat × Nat)} (hp : ys.Perm (plcU B k A)) (hs : ys.Pairwise fun a b => a.1 ≤ b.1) : ys = plc B k A := by
  have nd := plcU_nd h hk pA
  refine List.Perm.eq_of_pairwise (le := fun a b : Nat × Nat => a.1 ≤ b.1) (fun a b ha hb h1 h2 => ?_) hs (plc_le B k A) (hp.trans (plc_perm B k A).symm)
  exact nd_fst nd (hp.mem_iff.mp ha) ((plc_perm B k A).mem_iff.mp hb) (by omega)
theorem plc_len (B : Bk) (k : Nat) (A : List Nat) : (plc B k A).length = (B.row k).length := by rw [(plc_perm B k A).length_eq]; exact List.length_map ..
theorem plc_mem {k : Nat} {A : List Nat} {v i : Nat} : (v, i) ∈ plc B k A ↔ ∃ j, (j, i) ∈ B.row k ∧ A.getD j 0 = v := by
  rw [(plc_perm B k A).mem_iff]
  unfold plcU
  rw [List.mem_map]
  constructor
  · rintro ⟨p, hp, e⟩
    have e1 : A.getD p.1 0 = v := congrArg Prod.fst e
    have e2 : p.2 = i := congrArg Prod.snd e
    exact ⟨p.1, by rw [← e2]; exact hp, e1⟩
  · rintro ⟨j, hj, e⟩
    exact ⟨(j, i), hj, by rw [← e]⟩
theorem enumK_len (B : Bk) : ∀ f k A, (enumK B f k A).length = belowK B f k
  | 0, _, _ => rfl
  | f + 1, k, A => by
    show ((plc B k A).flatMap _).length = (B.row k).length * belowK B f (k + 1)
    rw [← plc_len B k A]
    generalize plc B k A = r
    induction r with
    | nil => rw [List.length_nil, Nat.zero_mul] <;> rfl
    | cons p r ih => rw [List.flatMap_cons, List.length_append, ih, enumK_len B f (k + 1), List.length_cons, Nat.add_mul, Nat.one_mul, Nat.add_comm]
theorem flat_get {α β : Type} {f : α → List β} {b : Nat} : ∀ {l : List α}, (∀ x ∈ l, (f x).length = b) → ∀ {i t : Nat} {x : α}, l[i]? = some x → t < b → (l.flatMap f)[i * b + t]? = (f x)[t]?
  | [], _, i, t, x, h, _ => by simp at h
  | y :: l, hl, i, t, x, h, ht => by
    rw [List.flatMap_cons]
    have hy := hl y List.mem_cons_self
    cases i with
    | zero =>
      have : y = x := by simpa using h
      subst this
      rw [Nat.zero_mul, Nat.zero_add, List.getElem?_append_left (by omega)]
    | succ i =>
      rw [Nat.add_mul, Nat.one_mul, List.getElem?_append_right (by omega), hy]
      have e : i * b + b + t - b = i * b + t := by omega
      rw [e]
      exact flat_get (fun z hz => hl z (List.mem_cons_of_mem _ hz)) (by simpa using h) ht
theorem entry_P (h : BkOk B moves) {k : Nat} (hk : k < B.n) {A : List Nat} {p : Nat × Nat} (hp : p ∈ plc B k A) : IsP B.n (B.mk' p.2) := by
  obtain ⟨j, hj, _⟩ := (plc_mem (v := p.1) (i := p.2)).mp hp
  exact h.mkP ((h.row k hk).en _ _ hj).1
/-- the seating of a number stands at its place -/
theorem numF_get (h : BkOk B moves) : ∀ (f k n : Nat) (A : List Nat), k + f = B.n → n < belowK B f k → (enumK B f k A)[n]? = some (numF B f k n A)
  | 0, k, n, A, _, hn => by
    have hn : n < 1 := hn
    obtain rfl : n = 0 := by omega
    rfl
  | f + 1, k, n, A, e, hn => by
    have hn : n < (B.row k).length * belowK B f (k + 1) := hn
    have b0 : 0 < belowK B f (k + 1) := belowK_pos h.pre f (k + 1) (by omega)
    have hq : n / belowK B f (k + 1) < (plc B k A).length := by rw [plc_len]; exact Nat.div_lt_of_lt_mul (by rw [Nat.mul_comm]; exact hn)
    have hr : n % belowK B f (k + 1) < belowK B f (k + 1) := Nat.mod_lt _ b0
    have e1 : n = n / belowK B f (k + 1) * belowK B f (k + 1) + n % belowK B f (k + 1) := by rw [Nat.mul_comm]; exact (Nat.div_add_mod n _).symm
    have e2 : (plc B k A)[n / belowK B f (k + 1)]? = some ((plc B k A).getD (n / belowK B f (k + 1)) (0, 0)) := by rw [List.getD_eq_getElem?_getD, List.getElem?_eq_getElem hq] <;> rfl
    show ((plc B k A).flatMap fun p => enumK B f (k + 1) (jn (B.mk' p.2) A))[n]? = _
    have := flat_get (f := fun p : Nat × Nat => enumK B f (k + 1) (jn (B.mk' p.2) A)) (b := belowK B f (k + 1)) (l := plc B k A) (fun x _ => enumK_len B f (k + 1) _) e2 hr
    rw [← e1] at this
    rw [this]
    exact numF_get h f (k + 1) _ _ (by omega) hr
theorem enumK_mem (h : BkOk B moves) : ∀ (f k : Nat) (A : List Nat), k + f = B.n → IsP B.n A → ∀ x, x ∈ enumK B f k A ↔ ∃ b, Sk B k b ∧ x = jn b A
  | 0, k, A, e, pA, x => by
    obtain rfl : k = B.n := by omega
    constructor
    · intro m
      have m : x = A := List.mem_singleton.mp m
      exact ⟨_, .last, by rw [m, id_jnP pA]⟩
    · rintro ⟨b, s, rfl⟩
      have : b = List.range B.n := Fix.id_of (s.isP h) (s.fix h)
      rw [this, id_jnP pA]
      exact List.mem_singleton.mpr rfl
  | f + 1, k, A, e, pA, x => by
    have hk : k < B.n := by omega
    show x ∈ (plc B k A).flatMap _ ↔ _
    rw [List.mem_flatMap]
    constructor
    · rintro ⟨p, hp, hx⟩
      have pm := entry_P h hk hp
      obtain ⟨b, s, rfl⟩ := (enumK_mem h f (k + 1) _ (by omega) (isP_jn pm pA) x).mp hx
      obtain ⟨j, hj, _⟩ := (plc_mem (v := p.1) (i := p.2)).mp hp
      refine ⟨_, .step hk (rowGet_of (h.row k hk).nd hj) s, ?_⟩
      rw [jn_assocP (s.isP h) pm]
    · rintro ⟨b, s, rfl⟩
      cases s with
      | last => omega
      | @step _ j i c _ hg s =>
        have pm := h.mkP ((h.row k hk).en _ _ (rowGet_mem hg)).1
        refine ⟨(A.getD j 0, i), plc_mem.mpr ⟨j, rowGet_mem hg, rfl⟩, (enumK_mem h f (k + 1) _ (by omega) (isP_jn pm pA) _).mpr ⟨c, s, ?_⟩⟩
        rw [jn_assocP (s.isP h) pm]
/-- they rise -/
theorem enumK_lex (h : BkOk B moves) : ∀ (f k : Nat) (A : List Nat), k + f = B.n → IsP B.n A → (enumK B f k A).Pairwise LexLt
  | 0, k, A, _, _ => List.pairwise_singleton _ _
  | f + 1, k, A, e, pA => by
    have hk : k < B.n := by omega
    -- what stands within a block
    have blk : ∀ p ∈ plc B k A, ∀ x ∈ enumK B f (k + 1) (jn (B.mk' p.2) A), IsP B.n x ∧ (∀ t, t < k → x.getD t 0 = A.getD t 0) ∧ x.getD k 0 = p.1 := by
      intro p hp x hx
      have pm := entry_P h hk hp
      obtain ⟨b, s, rfl⟩ := (enumK_mem h f (k + 1) _ (by omega) (isP_jn pm pA) x).mp hx
      obtain ⟨j, hj, ej⟩ := (plc_mem (v := p.1) (i := p.2)).mp hp
      have en := (h.row k hk).en _ _ hj
      have pb := s.isP h
      have fb := s.fix h
      have at_ : ∀ t, t < k + 1 → (jn b (jn (B.mk' p.2) A)).getD t 0 = A.getD ((B.mk' p.2).getD t 0) 0 := fun t ht => by
        rw [jn_get (by rw [pb.len]; omega), fb t ht, jn_get (by rw [pm.len]; omega)]
      refine ⟨isP_jn pb (isP_jn pm pA), fun t ht => ?_, ?_⟩
      · rw [at_ t (by omega)]
        show A.getD ((B.made.getD p.2 []).getD t 0) 0 = _
        rw [en.2.1 t ht]
      · rw [at_ k (by omega)]
        show A.getD ((B.made.getD p.2 []).getD k 0) 0 = _
        rw [en.2.2.1, ej]
    have ih := fun p (hp : p ∈ plc B k A) => enumK_lex h f (k + 1) (jn (B.mk' p.2) A) (by omega) (isP_jn (entry_P h hk hp) pA)
    have srt := plc_lt h hk pA
    show ((plc B k A).flatMap fun p => enumK B f (k + 1) (jn (B.mk' p.2) A)).Pairwise LexLt
    revert blk ih srt
    generalize plc B k A = r
    intro blk ih srt
    induction r with
    | nil => exact List.Pairwise.nil
    | cons p r ihr =>
      obtain ⟨r1, r2⟩ := List.pairwise_cons.mp srt
      rw [List.flatMap_cons]
      refine List.pairwise_append.mpr ⟨ih p List.mem_cons_self, ihr (fun q hq => blk q (List.mem_cons_of_mem _ hq)) (fun q hq => ih q (List.mem_cons_of_mem _ hq)) r2, fun x hx y hy => ?_⟩
      obtain ⟨q, hq, hy⟩ := List.mem_flatMap.mp hy
      obtain ⟨x1, x2, x3⟩ := blk p List.mem_cons_self x hx
      obtain ⟨y1, y2, y3⟩ := blk q (List.mem_cons_of_mem _ hq) y hy
      refine ⟨k, by rw [x1.len]; exact hk, fun t ht => (x2 t ht).trans (y2 t ht).symm, ?_⟩
      rw [x3, y3]
      exact r1 q hq
theorem enumB_lex (h : BkOk B moves) : (enumB B).Pairwise LexLt := enumK_lex h B.n 0 _ (by omega) (isP_id _)
theorem enumB_mem (h : BkOk B moves) (x : List Nat) : x ∈ enumB B ↔ Sk B 0 x := by
  unfold enumB
  rw [enumK_mem h B.n 0 _ (by omega) (isP_id _)]
  constructor
  · rintro ⟨b, s, rfl⟩; rw [jn_idP (s.isP h)]; exact s
  · intro s; exact ⟨x, s, (jn_idP (s.isP h)).symm⟩
theorem enumB_nd (h : BkOk B moves) : (enumB B).Nodup := (enumB_lex h).imp fun hlt e => by subst e; exact hlt.irrefl
/-- the entry that is picked -/
theorem pickR_some {r : List (Nat × Nat)} {A : List Nat} {v i : Nat} (h : pickR r A v = some i) : ∃ j, (j, i) ∈ r ∧ A.getD j 0 = v := by
  unfold pickR at h
  cases e : r.find? (fun p => decide (A.getD p.1 0 = v)) with
  | none => rw [e] at h; cases h
  | some p =>
    rw [e] at h
    have h1 := List.find?_some e
    have h2 := List.mem_of_find?_eq_some e
    have h3 : p.2 = i := Option.some.inj h
    exact ⟨p.1, by rw [← h3]; exact h2, of_decide_eq_true h1⟩
theorem pickR_of {r : List (Nat × Nat)} {A : List Nat} {v j i : Nat} (h : (j, i) ∈ r) (e : A.getD j 0 = v) : (pickR r A v).isSome = true := by
  unfold pickR
  rw [Option.isSome_map]
  exact List.find?_isSome.mpr ⟨_, h, decide_eq_true e⟩
/-- where an entry stands in the sorted places -/
theorem sorted_at : ∀ {l : List (Nat × Nat)}, (l.Pairwise fun a b => a.1 < b.1) → ∀ {p : Nat × Nat}, p ∈ l → l[(l.filter fun q => decide (q.1 < p.1)).length]? = some p
  | [], _, p, h => by cases h
  | q :: l, hs, p, h => by
    obtain ⟨h1, h2⟩ := List.pairwise_cons.mp hs
    rcases List.mem_cons.mp h with e | h
    · subst e
      have e0 : ((p :: l).filter fun q => decide (q.1 < p.1)) = [] := by
        rw [List.filter_eq_nil_iff]
        intro a ha
        rcases List.mem_cons.mp ha with ha | ha
        · rw [ha]; simp
        · have := h1 a ha; simp; omega
      rw [e0] <;> rfl
    · have := h1 p h
      rw [List.filter_cons_of_pos (by simpa using this), List.length_cons]
      rw [List.getElem?_cons_succ]
      exact sorted_at h2 h
theorem cnt_plc {k : Nat} {A : List Nat} (v : Nat) : ((plc B k A).filter fun q => decide (q.1 < v)).length = cntR (B.row k) A v := by
  rw [((plc_perm B k A).filter _).length_eq]
  unfold plcU cntR
  rw [List.filter_map, List.length_map] <;> rfl
/-- a number that is told is the place -/
theorem numO_get (h : BkOk B moves) : ∀ (f k : Nat) (A a : List Nat), k + f = B.n → IsP B.n A → a.length = B.n → (∀ t, t < k → a.getD t 0 = A.getD t 0) → ∀ {t : Nat}, numO B f k A a = some t → (enumK B f k A)[t]? = some a ∧ t < belowK B f k
  | 0, k, A, a, e, pA, la, hpre, t, ht => by
    obtain rfl : k = B.n := by omega
    have ht : 0 = t := Option.some.inj ht
    subst ht
    have : A = a := ext_getD (by rw [pA.len, la]) fun i hi => (hpre i (by rw [← pA.len]; exact hi)).symm
    exact ⟨by rw [← this] <;> rfl, Nat.zero_lt_one⟩
  | f + 1, k, A, a, e, pA, la, hpre, t, ht => by
    have hk : k < B.n := by omega
    unfold numO at ht
    cases c : pickR (B.row k) A (a.getD k 0) with
    | none => rw [c] at ht; cases ht
    | some i =>
      rw [c] at ht
      have ht : (numO B f (k + 1) (jn (B.mk' i) A) a).map (fun t => cntR (B.row k) A (a.getD k 0) * belowK B f (k + 1) + t) = some t := ht
      obtain ⟨j, hj, ej⟩ := pickR_some c
      have en := (h.row k hk).en _ _ hj
      have pm := h.mkP en.1
      have pA2 := isP_jn pm pA
      cases c2 : numO B f (k + 1) (jn (B.mk' i) A) a with
      | none => rw [c2] at ht; cases ht
      | some t' =>
        rw [c2] at ht
        have ht : cntR (B.row k) A (a.getD k 0) * belowK B f (k + 1) + t' = t := Option.some.inj ht
        have hpre2 : ∀ t, t < k + 1 → a.getD t 0 = (jn (B.mk' i) A).getD t 0 := fun t ht => by
          rw [jn_get (by rw [pm.len]; omega)]
          by_cases ct : t = k
          · subst ct
            show _ = A.getD ((B.made.getD i []).getD t 0) 0
            rw [en.2.2.1, ej]
          · show _ = A.getD ((B.made.getD i []).getD t 0) 0
            rw [en.2.1 t (by omega)]
            exact hpre t (by omega)
        obtain ⟨g1, g2⟩ := numO_get h f (k + 1) _ a (by omega) pA2 la hpre2 c2
        have hp : (a.getD k 0, i) ∈ plc B k A := plc_mem.mpr ⟨j, hj, ej⟩
        have at_ := sorted_at (plc_lt h hk pA) hp
        have at_ : (plc B k A)[cntR (B.row k) A (a.getD k 0)]? = some (a.getD k 0, i) := by rw [← cnt_plc]; exact at_
        have hc := (List.getElem?_eq_some_iff.mp at_).1
        rw [plc_len] at hc
        have := flat_get (f := fun p : Nat × Nat => enumK B f (k + 1) (jn (B.mk' p.2) A)) (b := belowK B f (k + 1)) (l := plc B k A) (fun x _ => enumK_len B f (k + 1) _) at_ g2
        rw [ht] at this
        refine ⟨this.trans g1, ?_⟩
        show t < (B.row k).length * belowK B f (k + 1)
        have : (cntR (B.row k) A (a.getD k 0) + 1) * belowK B f (k + 1) ≤ (B.row k).length * belowK B f (k + 1) := Nat.mul_le_mul_right _ hc
        rw [Nat.add_mul, Nat.one_mul] at this
        omega
theorem numO_some (h : BkOk B moves) : ∀ (f k : Nat) (A b : List Nat), k + f = B.n → IsP B.n A → Sk B k b → (numO B f k A (jn b A)).isSome = true
  | 0, _, _, _, _, _, _ => rfl
  | f + 1, k, A, b, e, pA, s => by
    have hk : k < B.n := by omega
    cases s with
    | last => omega
    | @step _ j i c _ hg s =>
      have en := (h.row k hk).en _ _ (rowGet_mem hg)
      have pm := h.mkP en.1
      have pc := s.isP h
      have ek : (jn (jn c (B.mk' i)) A).getD k 0 = A.getD j 0 := by
        rw [jn_get (by rw [jn_len, pc.len]; exact hk), s.at h hk hg]
      have hs := pickR_of (r := B.row k) (A := A) (rowGet_mem hg) ek.symm
      unfold numO
      cases c2 : pickR (B.row k) A ((jn (jn c (B.mk' i)) A).getD k 0) with
      | none => rw [c2] at hs; cases hs
      | some i' =>
        obtain ⟨j', hj', ej'⟩ := pickR_some c2
        have hj2 : j' = j := by
          rw [ek] at ej'
          have l1 : j' < B.n := by
            have en' := (h.row k hk).en _ _ hj'
            rw [← en'.2.2.1]; exact (h.mkP en'.1).getD_lt hk
          have l2 : j < B.n := by rw [← en.2.2.1]; exact pm.getD_lt hk
          exact nd_getD pA.nd (by rw [pA.len]; exact l1) (by rw [pA.len]; exact l2) ej'
        have hi2 : i' = i := by
          have := rowGet_of (h.row k hk).nd hj'
          rw [hj2, hg] at this
          exact (Option.some.inj this).symm
        subst hi2
        show ((numO B f (k + 1) (jn (B.mk' i') A) (jn (jn c (B.mk' i')) A)).map _).isSome = true
        rw [Option.isSome_map, jn_assocP pc pm]
        exact numO_some h f (k + 1) _ c (by omega) (isP_jn pm pA) s
/-- the number of a seating -/
def numB (B : Bk) (a : List Nat) : Option Nat := numO B B.n 0 (List.range B.n) a
theorem numB_iff (h : BkOk B moves) {a : List Nat} (pa : IsP B.n a) (t : Nat) : numB B a = some t ↔ (enumB B)[t]? = some a := by
  constructor
  · intro e
    exact (numO_get h B.n 0 _ a (by omega) (isP_id _) pa.len (fun t ht => absurd ht (Nat.not_lt_zero t)) e).1
  · intro e
    have s := (enumB_mem h a).mp (List.mem_of_getElem? e)
    have hs := numO_some h B.n 0 _ a (by omega) (isP_id _) s
    rw [jn_idP pa] at hs
    have hs : (numB B a).isSome = true := hs
    cases c : numB B a with
    | none => rw [c] at hs; cases hs
    | some t' =>
      have e' := (numO_get h B.n 0 _ a (by omega) (isP_id _) pa.len (fun t ht => absurd ht (Nat.not_lt_zero t)) c).1
      obtain ⟨l1, e1⟩ := List.getElem?_eq_some_iff.mp e
      obtain ⟨l2, e2⟩ := List.getElem?_eq_some_iff.mp e'
      have nd := List.pairwise_iff_getElem.mp (enumB_nd h)
      have : t' = t := by
        rcases Nat.lt_trichotomy t' t with z | z | z
        · exact absurd (e2.trans e1.symm) (nd _ _ l2 l1 z)
        · exact z
        · exact absurd (e1.trans e2.symm) (nd _ _ l1 l2 z)
      rw [this]
theorem numB_none (h : BkOk B moves) {a : List Nat} (pa : IsP B.n a) : numB B a = none ↔ ¬ Sifts B a := by
  rw [sifts_sk h pa, ← enumB_mem h]
  constructor
  · intro e hm
    obtain ⟨t, ht, et⟩ := List.getElem_of_mem hm
    have := (numB_iff h pa t).mpr (by rw [List.getElem?_eq_getElem ht, et])
    rw [e] at this; cases this
  · intro hn
    cases c : numB B a with
    | none => rfl
    | some t => exact absurd (List.mem_of_getElem? ((numB_iff h pa t).mp c)) hn
theorem enumB_len (h : BkOk B moves) : (enumB B).length = manyB B := by unfold enumB; rw [enumK_len, many_eq h.rl]
theorem belowK_le (h : BkPre B moves) : ∀ (f k : Nat), k + f = B.n → belowK B f k ≤ 16 ^ f
  | 0, _, _ => Nat.le_refl _
  | f + 1, k, e => by
    have h1 := row_len h (k := k) (by omega)
    have h2 := h.h2
    show (B.row k).length * belowK B f (k + 1) ≤ 16 ^ (f + 1)
    rw [Nat.pow_succ, Nat.mul_comm]
    exact Nat.mul_le_mul (belowK_le h f (k + 1) (by omega)) (by omega)
theorem many_lt (h : BkPre B moves) : manyB B < 18446744073709551616 := by
  obtain ⟨f, hf⟩ : ∃ f, B.n = f + 1 := ⟨B.n - 1, by have := h.h1; omega⟩
  rw [many_eq h.rl, hf]
  have h1 := row_len h (k := 0) (by have := h.h1; omega)
  have h2 := h.h2
  have h3 := belowK_le h f 1 (by omega)
  show (B.row 0).length * belowK B f 1 < _
  have h4 : 16 ^ f ≤ 16 ^ 15 := Nat.pow_le_pow_right (by decide) (by omega)
  have h5 : (B.row 0).length * belowK B f 1 ≤ 16 * 16 ^ 15 := by
    by_cases c : B.n = 16
    · exact Nat.mul_le_mul (by omega) (by omega)
    · exact Nat.mul_le_mul (by omega) (by omega)
  by_cases c : (B.row 0).length ≤ 15
  · have h6 : (B.row 0).length * belowK B f 1 ≤ 15 * 16 ^ 15 := Nat.mul_le_mul c (by omega)
    have : 15 * 16 ^ 15 < 18446744073709551616 := by decide
    omega
  · -- the second row has at most fifteen
    obtain ⟨f', rfl⟩ : ∃ f', f = f' + 1 := ⟨f - 1, by omega⟩
    have h7 := row_len h (k := 1) (by omega)
    have h8 := belowK_le h f' 2 (by omega)
    have h9 : 16 ^ f' ≤ 16 ^ 14 := Nat.pow_le_pow_right (by decide) (by omega)
    have h10 : belowK B (f' + 1) 1 ≤ 15 * 16 ^ 14 := by
      show (B.row 1).length * belowK B f' 2 ≤ _
      exact Nat.mul_le_mul (by omega) (by omega)
    have h11 : (B.row 0).length * belowK B (f' + 1) 1 ≤ 16 * (15 * 16 ^ 14) := Nat.mul_le_mul (by omega) h10
    have : 16 * (15 * 16 ^ 14) < 18446744073709551616 := by decide
    omega
end
end Shf

/-! the seating of a number, the number of a seating: walked; law k12 -/
namespace Shf
open PySem L2
/-- the pair that a tuple holds -/
def prOf (H : Hp) : V → Int × Int
  | .ref t => match H t with
    | some (.tup [.int a, .int b]) => (a, b)
    | _ => (0, 0)
  | _ => (0, 0)
theorem LG.pr {H : Hp} {vs : List V} {ps : List (Nat × Nat)} (h : LG prV H vs ps) : (∀ x ∈ vs, ∃ t, x = V.ref t ∧ H t = some (.tup [.int (prOf H x).1, .int (prOf H x).2])) ∧ vs.map (fun x => ((prOf H x).1.toNat, (prOf H x).2.toNat)) = ps := by
  induction h with
  | nil => exact ⟨fun x hx => (by cases hx), rfl⟩
  | @cons p a vs as hp _ ih =>
    have e : prOf H (.ref p) = ((a.1 : Int), (a.2 : Int)) := by
      show (match H p with | some (.tup [.int a, .int b]) => (a, b) | _ => (0, 0)) = _
      rw [hp] <;> rfl
    refine ⟨fun x hx => ?_, ?_⟩
    · rcases List.mem_cons.mp hx with hx | hx
      · rw [hx, e]; exact ⟨p, rfl, hp⟩
      · exact ih.1 x hx
    · rw [List.map_cons, ih.2, e] <;> rfl
theorem LG.of_pr {H : Hp} : ∀ {vs : List V}, (∀ x ∈ vs, ∃ (t : Addr) (a b : Nat), x = V.ref t ∧ H t = some (.tup [.int (a : Int), .int (b : Int)])) → LG prV H vs (vs.map fun x => ((prOf H x).1.toNat, (prOf H x).2.toNat))
  | [], _ => .nil
  | x :: vs, h => by
    obtain ⟨t, a, b, rfl, ht⟩ := h x List.mem_cons_self
    have e : prOf H (.ref t) = ((a : Int), (b : Int)) := by
      show (match H t with | some (.tup [.int a, .int b]) => (a, b) | _ => (0, 0)) = _
      rw [ht] <;> rfl
    rw [List.map_cons, e]
    exact .cons ht (LG.of_pr fun y hy => h y (List.mem_cons_of_mem _ hy))
theorem sort_pl {B : Bk} {moves : List (List Nat)} (ok : BkOk B moves) {k : Nat} (hk : k < B.n) {A : List Nat} (pA : IsP B.n A) {H : Hp} {xs ys : List V} (h : LG prV H xs (plcU B k A)) (hs : SrtO.Srtd (ltP (prOf H)) ys) (hb : SrtO.Stb (ltP (prOf H)) ys xs) : LG prV H ys (plc B k A) := by
  obtain ⟨h1, h2⟩ := h.pr
  have hmem : ∀ x ∈ ys, ∃ (t : Addr) (a b : Nat), x = V.ref t ∧ H t = some (.tup [.int (a : Int), .int (b : Int)]) := fun x hx => by
    have hx := hb.perm.mem_iff.mp hx
    obtain ⟨i, hi, e⟩ := List.getElem_of_mem hx
    obtain ⟨p, a, ep, _, hp⟩ := h.get' (i := i) (v := x) (by rw [List.getElem?_eq_getElem hi, e])
    exact ⟨p, a.1, a.2, ep, hp⟩
  have l := LG.of_pr hmem
  have : ys.map (fun x => ((prOf H x).1.toNat, (prOf H x).2.toNat)) = plc B k A := by
    refine plc_uniq ok hk pA ?_ ?_
    · rw [← h2]; exact hb.perm.map _
    · refine List.pairwise_map.mpr (hs.imp fun {x y} hxy => ?_)
      have := SrtO.lexB_no.mp hxy
      show (prOf H x).1.toNat ≤ (prOf H y).1.toNat
      omega
  rw [← this]
  exact l
def sp_Room_numbered (K : PySem.W.Frag) (g : Gd) : Sp := fun vs H Q E => ∃ (R : RA) (B : Bk) (moves : List (List Nat)) (z : Int), vs = [.ref R.r, .int z] ∧ RoomAt g H R B moves ∧ (¬ (0 ≤ z ∧ z < (manyB B : Int)) → E (.ref g.NoNumber) none H) ∧
  ∀ (t : Nat) (a : List Nat), z = (t : Int) → (enumB B)[t]? = some a → NewT H a Q
theorem len_Room_numbered (K : PySem.W.Frag) (g : Gd) (vs : List V) (H : Hp) (Q : VK) (E : XK) (h : sp_Room_numbered K g vs H Q E) : vs.length = 2 := by obtain ⟨_, _, _, _, rfl, _⟩ := h; rfl
--@facts Room.numbered r_Room r_Book
abbrev N_Room_numbered : List Str := ["self", "n", "below", "ahead", "row", "places", "pick", "k"]
/-- Room.numbered -/
def t_Room_numbered (K : PySem.W.Frag) (g : Gd) (E : XK) : TS :=
  (tSeq (tAsg (tMethS g.Room "how_many" (sp_Room_how_many K g) (fun _ => E0) (tVar 0) tNil) (gName 2))
    (tSeq (tIfS (tOr (tTest (tOp rLtI (tVar 1) (tC (.int 0)))) (tTest (tOp rGeI (tVar 1) (tVar 2)))) (tRaiseW (wE E) g.NoNumber) tNext)
    (tSeq (tAsg (tCallS (sp_rest K g) (WE (wE E)) (tCons (tFld K (tVar 0) "size") tNil)) (gName 3))
    (tSeq (tFor (iList K (tFld K (tFld K (tVar 0) "book") "rows")) (gName 4) (tSeq (tAsg (tOp rDivI (tVar 2) (tCB rLenDk (tCons (tVar 4) tNil))) (gName 2))
    (tSeq (tAsg (tCB (rSortedPO K) (tCons (tLc (iList K (tCB rListD (tCons (tVar 4) tNil))) (gName 7) tYes (tTup (tCons (tOp (rIxT K) (tVar 3) (tVar 7)) (tCons (tDGet (tVar 4) (tVar 7)) tNil))) [7]) tNil)) (gName 5))
    (tSeq (tAsg (tOp (rIxT K) (tOp (rIxL K) (tVar 5) (tOp rDivI (tVar 1) (tVar 2))) (tC (.int 1))) (gName 6))
    (tSeq (tAsg (tOp rModI (tVar 1) (tVar 2)) (gName 1))
    (tAsg (tCallS (sp_joined K g) (fun _ => E0) (tCons (tOp (rIxL K) (tFld K (tFld K (tVar 0) "book") "made") (tVar 6)) (tCons (tVar 3) tNil))) (gName 3)))))))
    (tRet (tVar 3))))))
theorem pure_Room_numbered {K : PySem.W.Frag} {g : Gd} (cR : RmC K g) (cB : BkC K g) (vs : List V) (H : Hp) (Q : VK) (E : XK) (h : sp_Room_numbered K g vs H Q E) : Rd1 (t_Room_numbered K g E) N_Room_numbered vs H Q := by
  obtain ⟨R, B, moves, z, rfl, hR, e1, k⟩ := h
  have ok := hR.cl.ok
  have h16 := ok.h2
  have h01 := ok.h1
  have hmany := many_lt ok.pre
  unfold t_Room_numbered
  walk_at "rd"
  refine hR.inst (by rfl) ?_
  walk_at "rd"
  refine ⟨R, B, moves, rfl, hR, ?_⟩
  walk_at "re"
  walk_at "sq"
  walk_at "st"
  refine w_orP (b := decide (z < 0)) (c := decide ((manyB B : Int) ≤ z)) (fun R' r => ?_) (fun R' r => ?_) ?_
  · walk_at "ex"
    exact r
  · walk_at "ex"
    exact r
  refine if_b (fun c => ?_) (fun c => ?_)
  · refine e1 fun zz => ?_
    rw [decide_eq_false (by omega), decide_eq_false (by omega)] at c
    cases c
  have hz0 : 0 ≤ z := by
    refine Decidable.byContradiction fun q => ?_
    rw [decide_eq_true (by omega)] at c
    cases c
  have hz1 : z < (manyB B : Int) := by
    refine Decidable.byContradiction fun q => ?_
    rw [decide_eq_true (p := (manyB B : Int) ≤ z) (by omega), Bool.or_true] at c
    cases c
  obtain ⟨t, rfl⟩ : ∃ t : Nat, z = (t : Int) := ⟨z.toNat, by omega⟩
  have ht : t < manyB B := by omega
  rw [many_eq ok.rl] at ht
  have hfin := numF_get ok B.n 0 t (List.range B.n) (by omega) ht
  have k := k t _ rfl hfin
  walk_at "rd"
  refine hR.f_size cR ?_
  walk_at "rd"
  refine ⟨_, rfl, fun _ q0 H1 s1 hq0 hq01 => ?_, fun c => absurd (by omega) c⟩
  rw [show ((B.n : Int)).toNat = B.n from Int.toNat_natCast _] at hq01
  have hR1 := hR.same s1
  walk_at "rd"
  refine hR1.f_book cR ?_
  walk_at "rd"
  refine hR1.bk.f_rows cB ?_
  rw [many_eq ok.rl]
  refine ⟨R.A.lr, rfl, ⟨_, sqL hR1.bk.rw⟩, for_list (K := K) (a := R.A.lr) (xs := R.A.ds.map V.ref) (fun i σ H' => ∃ (n : Nat) (q : Addr) (A : List Nat) (y1 y2 y3 : Option V), i ≤ B.n ∧ σ = [some (.ref R.r), some (.int (n : Int)), some (.int (belowK B (B.n - i) i : Int)), some (.ref q), y1, y2, y3, none] ∧ Same H H' ∧ H q = none ∧ H' q = some (.tup (vN A)) ∧ IsP B.n A ∧ n < belowK B (B.n - i) i ∧ numF B (B.n - i) i n A = numF B B.n 0 t (List.range B.n)) ?_ ?_ ?_ ?_⟩
  · exact ⟨t, q0, _, none, none, none, Nat.zero_le _, rfl, s1, hq0, hq01, isP_id _, ht, rfl⟩
  · rintro i σ H' _ ⟨_, _, _, _, _, _, _, _, s, _⟩; exact sqL ((hR.same s).bk.rw)
  · rintro i x σ H2 hx ⟨n, q, A, y1, y2, y3, _, rfl, s2, hq, hq2, pA, hn, hnum⟩
    rw [List.getElem?_map] at hx
    cases ed : R.A.ds[i]? with
    | none => rw [ed] at hx; cases hx
    | some d =>
      rw [ed] at hx
      cases hx
      have hi : i < B.n := by
        have := (List.getElem?_eq_some_iff.mp ed).1
        rw [hR.bk.dl] at this
        exact this
      have hR2 := hR.same s2
      have hd := hR2.bk.ro i d ed
      have hrow := row_len ok.pre (k := i) hi
      have hrow1 := List.length_pos_of_mem (ok.row i hi).hd
      have ef : B.n - i = (B.n - (i + 1)) + 1 := by omega
      rw [ef] at hn hnum
      have hn : n < (B.row i).length * belowK B (B.n - (i + 1)) (i + 1) := hn
      have eb : (belowK B (B.n - i) i : Int) / ((B.row i).length : Int) = (belowK B (B.n - (i + 1)) (i + 1) : Int) := by
        rw [ef]
        show (((B.row i).length * belowK B (B.n - (i + 1)) (i + 1) : Nat) : Int) / _ = _
        rw [Int.natCast_mul, Int.mul_ediv_cancel_left _ (by omega)]
      have b0 : 0 < belowK B (B.n - (i + 1)) (i + 1) := belowK_pos ok.pre _ _ (by omega)
      have bm : belowK B (B.n - (i + 1)) (i + 1) < 18446744073709551616 := by
        have h1 := many_below ok.rl (B.n - (i + 1)) (i + 1) (by omega)
        have : 0 < manyTo B (i + 1) := Nat.pos_of_ne_zero fun z => by
          rw [z, Nat.zero_mul] at h1
          rw [many_eq ok.rl] at h1
          have := belowK_pos ok.pre B.n 0 (by omega)
          omega
        have := Nat.le_mul_of_pos_left (belowK B (B.n - (i + 1)) (i + 1)) this
        omega
      show tSeq _ _ _ (List.set _ 4 (some (V.ref d))) _
      walk_at "rd"
      refine ⟨d, _, rfl, hd, ?_⟩
      rw [rowV_len]
      refine div_I (by omega) (by omega) ?_
      rw [eb]
      walk_at "rd"
      refine w_lc (w_ilist ?_)
      walk_at "ex"
      refine ⟨d, _, rfl, hd, fun l hl => ?_⟩
      have ek : (rowV (B.row i)).map (fun kv => kV kv.1) = vN ((B.row i).map (·.1)) := by
        unfold rowV
        show _ = ((B.row i).map _).map _
        rw [List.map_map, List.map_map] <;> rfl
      rw [ek]
      have s3 := (Same.refl H2).new (o := .lst (vN ((B.row i).map (·.1)))) hl
      have hl3 : (upd H2 l (.lst (vN ((B.row i).map (·.1))))) l = some (.lst (vN ((B.row i).map (·.1)))) := upd_same
      generalize upd H2 l (.lst (vN ((B.row i).map (·.1)))) = H3 at *
      refine ⟨l, rfl, ⟨_, sqL hl3⟩, fun D hD => lc_list (K := K) (a := l) (xs := vN ((B.row i).map (·.1))) (fun m H' => Same H3 H' ∧ ∃ ws, H' D = some (.lst ws) ∧ LG prV H' ws ((plcU B i A).take m)) ?_ ?_ ?_ ?_⟩
      · exact ⟨(Same.refl _).new hD, [], upd_same, by rw [List.take_zero]; exact .nil⟩
      · rintro m H' _ ⟨s, _⟩; exact sqL (s _ _ hl3)
      · rintro m x H4 hx ⟨s4, ws, hw, hwl⟩
        obtain ⟨j, hj, rfl⟩ := vN_get hx
        rw [List.getElem?_map] at hj
        cases ep : (B.row i)[m]? with
        | none => rw [ep] at hj; cases hj
        | some p =>
          rw [ep] at hj
          have hj : p.1 = j := Option.some.inj hj
          have hpm := List.mem_of_getElem? ep
          have en := (ok.row i hi).en p.1 p.2 hpm
          have hjl : j < B.n := by rw [← hj, ← en.2.2.1]; exact (ok.mkP en.1).getD_lt hi
          have hg : rowGet (B.row i) j = some p.2 := rowGet_of (ok.row i hi).nd (by rw [← hj]; exact hpm)
          have s24 := s3.trans s4
          have hq4 := s24 _ _ hq2
          have hd4 := s24 _ _ hd
          have hdg : DGet H4 d (V.int (j : Int)) (some (V.int (p.2 : Int))) := by
            have := DGet.k hd4 (k := Sum.inl (j : Int))
            rw [rowV_get, hg] at this
            exact this
          refine ⟨rfl, ?_⟩
          walk_at "ex"
          refine ix_TN (i := j) (sqT hq4) (by rw [pA.len]; exact hjl) rfl ?_
          walk_at "ex"
          refine ⟨d, _, rfl, hdg, ?_⟩
          walk_at "ex"
          refine ⟨zl (by show 2 ≤ 100000; decide), fun u hu => ?_⟩
          have hw5 : (upd H4 u (.tup (prV (A.getD j 0, p.2)))) D = some (.lst ws) := by rw [upd_ne (ne_of_none hw hu)]; exact hw
          have hm : (plcU B i A)[m]? = some (A.getD j 0, p.2) := by
            unfold plcU
            rw [List.getElem?_map, ep, ← hj] <;> rfl
          have hml := (List.getElem?_eq_some_iff.mp hm).1
          have hul : (plcU B i A).length = (B.row i).length := List.length_map ..
          refine ⟨ws, hw5, by rw [hwl.len, List.length_take]; exact zlt (by omega), (s4.new hu).up hD, _, upd_same, ?_⟩
          rw [take_more hm]
          have tu : Tu H4 (upd (upd H4 u (.tup (prV (A.getD j 0, p.2)))) D (.lst (ws ++ [.ref u]))) := fun a xs e => by
            rw [upd_ne (ne_of e hw fun z => by cases z), upd_ne (ne_of_none e hu)]; exact e
          refine (hwl.tu tu).snoc ?_
          rw [upd_ne (ne_of_none hw hu).symm]
          exact upd_same
      · rintro H4 ⟨s4, ws, hw, hwl⟩
        rw [vN_len, show ((B.row i).map (·.1)).length = (plcU B i A).length by unfold plcU; rw [List.length_map, List.length_map], List.take_length] at hwl
        have s24 := s3.trans s4
        walk_at "rd"
        refine ⟨D, ws, prOf H4, rfl, sqL hw, hwl.pr.1, fun ys pp hsr hst hpp => ?_⟩
        have hys := sort_pl ok hi pA hwl hsr hst
        have s5 := (Same.refl H4).new (o := .lst ys) hpp
        have hy5 : (upd H4 pp (.lst ys)) pp = some (.lst ys) := upd_same
        generalize upd H4 pp (.lst ys) = H5 at *
        have hys5 := hys.tu s5.tu
        have s25 := s24.trans s5
        have hqi : n / belowK B (B.n - (i + 1)) (i + 1) < (plc B i A).length := by rw [plc_len]; exact Nat.div_lt_of_lt_mul (by rw [Nat.mul_comm]; exact hn)
        have e2 : (plc B i A)[n / belowK B (B.n - (i + 1)) (i + 1)]? = some ((plc B i A).getD (n / belowK B (B.n - (i + 1)) (i + 1)) (0, 0)) := by rw [List.getD_eq_getElem?_getD, List.getElem?_eq_getElem hqi] <;> rfl
        obtain ⟨u, hu, hu5⟩ := hys5.get e2
        have pm := entry_P ok hi (List.mem_of_getElem? e2)
        obtain ⟨j, hj, _⟩ := (plc_mem (v := ((plc B i A).getD (n / belowK B (B.n - (i + 1)) (i + 1)) (0, 0)).1) (i := ((plc B i A).getD (n / belowK B (B.n - (i + 1)) (i + 1)) (0, 0)).2)).mp (List.mem_of_getElem? e2)
        have hml := ((ok.row i hi).en _ _ hj).1
        walk_at "rd"
        refine div_I (by omega) (by omega) ?_
        refine ix_L (i := n / belowK B (B.n - (i + 1)) (i + 1)) (sqL hy5) hu (by rw [Int.natCast_ediv]) ?_
        walk_at "rd"
        refine ix_T (i := 1) (sqT hu5) rfl rfl ?_
        walk_at "rd"
        refine mod_I (by omega) ?_
        have hR5 := hR2.same s25
        have hq5 := s25 _ _ hq2
        walk_at "rd"
        refine hR5.f_book cR ?_
        walk_at "rd"
        refine hR5.bk.f_made cB ?_
        walk_at "rd"
        refine hR5.bk.ix_made hml rfl fun w hw5 => ?_
        walk_at "rd"
        refine ⟨w, q, _, A, rfl, sqT hw5, sqT hq5, by rw [pm.len]; omega, fun z hz => by rw [pA.len]; exact pm.lt hz, fun v H6 s6 hv hv6 => ?_⟩
        walk_at "rd"
        have s06 := s2.trans (s25.trans s6)
        have er : (n : Int) % (belowK B (B.n - (i + 1)) (i + 1) : Int) = ((n % belowK B (B.n - (i + 1)) (i + 1) : Nat) : Int) := by rw [Int.natCast_emod]
        rw [er]
        refine ⟨_, v, _, _, _, _, hi, rfl, s06, (s2.trans s25).free hv, hv6, isP_jn pm pA, Nat.mod_lt _ b0, hnum⟩
  · rintro σ H2 ⟨n, q, A, y1, y2, y3, _, rfl, s2, hq, hq2, pA, hn, hnum⟩
    rw [List.length_map, hR.bk.dl, Nat.sub_self] at hnum
    walk_at "rd"
    have hA : A = numF B B.n 0 t (List.range B.n) := hnum
    exact k q H2 s2 hq (by rw [← hA]; exact hq2)
end Shf

/-! the number of a seating, walked; law k12 -/
namespace Shf
open PySem L2
/-- the seating at a place -/
theorem enum_at {B : Bk} {moves : List (List Nat)} (ok : BkOk B moves) {t : Nat} (ht : t < manyB B) : ∃ a, (enumB B)[t]? = some a ∧ IsP B.n a ∧ Sifts B a := by
  rw [← enumB_len ok] at ht
  have e := List.getElem?_eq_getElem ht
  have s := (enumB_mem ok _).mp (List.mem_of_getElem? e)
  exact ⟨_, e, s.isP ok, (sifts_sk ok (s.isP ok)).mpr s⟩
theorem numbered_ok {K : PySem.W.Frag} {g : Gd} {H : Hp} {Q : VK} {E : XK} {R : RA} {B : Bk} {ms : List (List Nat)} (hR : RoomAt g H R B ms) {t : Nat} {a : List Nat} (ht : (enumB B)[t]? = some a) (k : NewT H a Q) : sp_Room_numbered K g [.ref R.r, .int (t : Int)] H Q E := by
  have := (List.getElem?_eq_some_iff.mp ht).1
  rw [enumB_len hR.cl.ok] at this
  refine ⟨R, B, ms, t, rfl, hR, fun c => absurd ⟨by omega, by omega⟩ c, fun t' a' et ha => ?_⟩
  have et : t = t' := by omega
  subst et
  rw [ht] at ha
  cases ha
  exact k
end Shf

/-! seats led to; ring_of -/
namespace Shf
open PySem L2
/-- the seats to which moves lead -/
inductive Rch (moves : List (List Nat)) (x : Nat) : Nat → Prop
  | refl : Rch moves x x
  | step {y : Nat} {m : List Nat} : Rch moves x y → m ∈ moves → Rch moves x (m.getD y 0)
theorem Rch.lt {n : Nat} {moves : List (List Nat)} (hm : ∀ m ∈ moves, IsP n m) {x y : Nat} (hx : x < n) (h : Rch moves x y) : y < n := by
  induction h with
  | refl => exact hx
  | step _ m ih => exact (hm _ m).getD_lt ih
/-- rising lists of the same numbers are one -/
theorem rise_uniq {l l' : List Nat} (h : l.Pairwise (· < ·)) (h' : l'.Pairwise (· < ·)) (e : ∀ x, x ∈ l ↔ x ∈ l') : l = l' := by
  have nd : ∀ {l : List Nat}, l.Pairwise (· < ·) → l.Nodup := fun h => h.imp fun a => by omega
  refine List.Perm.eq_of_pairwise (le := fun a b : Nat => a ≤ b) (fun a b _ _ h1 h2 => by omega) (h.imp fun a => by omega) (h'.imp fun a => by omega) ((List.perm_ext_iff_of_nodup (nd h) (nd h')).mpr e)
def NewLN (H : Hp) (l : List Nat) (Q : VK) : Prop := ∀ (r : Addr) (H' : Hp), Same H H' → H r = none → H' r = some (.lst (vN l)) → Q (.ref r) H'
theorem notin_LN {K : PySem.W.Frag} {H : Hp} {Q : VK} {p : Addr} {a : List Nat} {x : Nat} (h : SqL K H p (vN a)) (k : Q (.bl (!decide (x ∈ a))) H) : rIn K true (.int (x : Int)) (.ref p) H Q := by
  rw [vN_eq] at h
  refine notin_LI h ?_
  have e : decide ((x : Int) ∈ a.map fun (x : Nat) => (x : Int)) = decide (x ∈ a) := dec_iff ⟨fun z => by
    obtain ⟨y, hy, e⟩ := List.mem_map.mp z
    have : y = x := by omega
    rw [← this]; exact hy, fun z => List.mem_map.mpr ⟨x, z, rfl⟩⟩
  rw [e]
  exact k
theorem eq_LN {K : PySem.W.Frag} {H : Hp} {Q : VK} {p q : Addr} {a b : List Nat} (ha : SqL K H p (vN a)) (hb : SqL K H q (vN b)) (k : Q (.bl (decide (a = b))) H) : rEqD K (.ref p) (.ref q) H Q := by
  rw [vN_eq] at ha hb
  refine ⟨dL _, dL _, dp_L ha, dp_L hb, shp_L _, shp_L _, ?_⟩
  rw [eqv_L, dec_iff vInj]
  exact k
end Shf

/-! the finest parting; parting walked -/
namespace Shf
open PySem L2
/-- a list of lists of numbers, newer than a heap -/
inductive LLN (H0 H : Hp) : List V → List (List Nat) → Prop
  | nil : LLN H0 H [] []
  | cons {p : Addr} {a : List Nat} {vs : List V} {as : List (List Nat)} : H p = some (.lst (vN a)) → H0 p = none → LLN H0 H vs as → LLN H0 H (.ref p :: vs) (a :: as)
theorem LLN.mono {H0 H H' : Hp} (s : Same H H') {vs : List V} {as : List (List Nat)} (h : LLN H0 H vs as) : LLN H0 H' vs as := by
  induction h with
  | nil => exact .nil
  | cons h1 h2 _ ih => exact .cons (s _ _ h1) h2 ih
theorem LLN.snoc {H0 H : Hp} {p : Addr} {a : List Nat} (h1 : H p = some (.lst (vN a))) (h2 : H0 p = none) {vs : List V} {as : List (List Nat)} (h : LLN H0 H vs as) : LLN H0 H (vs ++ [.ref p]) (as ++ [a]) := by
  induction h with
  | nil => exact .cons h1 h2 .nil
  | cons a b _ ih => exact .cons a b ih
theorem LLN.len {H0 H : Hp} {vs : List V} {as : List (List Nat)} (h : LLN H0 H vs as) : vs.length = as.length := by
  induction h with
  | nil => rfl
  | cons _ _ _ ih => simp [ih]
theorem LLN.get {H0 H : Hp} {vs : List V} {as : List (List Nat)} (h : LLN H0 H vs as) : ∀ {i : Nat} {a : List Nat}, as[i]? = some a → ∃ p, vs[i]? = some (.ref p) ∧ H p = some (.lst (vN a)) ∧ H0 p = none := by
  induction h with
  | nil => intro i a e; simp at e
  | cons h1 h2 _ ih =>
    intro i a e
    cases i with
    | zero => cases e; exact ⟨_, rfl, h1, h2⟩
    | succ i => exact ih (by simpa using e)
theorem LLN.out {H0 H : Hp} {l : Addr} {ws : List V} {o : HO} (hl : H l = some (.lst ws)) {vs : List V} {as : List (List Nat)} (h : LLN H0 H vs as) (hn : (.ref l : V) ∉ vs) : LLN H0 (L2.upd H l o) vs as := by
  induction h with
  | nil => exact .nil
  | @cons p a vs as h1 h2 _ ih =>
    have hn1 : p ≠ l := fun z => hn (by rw [z]; exact List.mem_cons_self)
    exact .cons (by rw [upd_ne hn1]; exact h1) h2 (ih fun z => hn (List.mem_cons_of_mem _ z))
def NewLLN (H : Hp) (as : List (List Nat)) (Q : VK) : Prop := ∀ (r : Addr) (H' : Hp) (vs : List V), Same H H' → H r = none → H' r = some (.lst vs) → LLN H H' vs as → (.ref r : V) ∉ vs → vs.Nodup → Q (.ref r) H'
end Shf

/-! swaps of neighbours: all seatings, and the even ones -/
namespace Shf
open PySem L2
theorem mr_get {n : Nat} {f : Nat → Nat} {i : Nat} (h : i < n) : ((List.range n).map f).getD i 0 = f i := by
  rw [List.getD_eq_getElem?_getD, List.getElem?_map, List.getElem?_range h] <;> rfl
theorem mr_len (n : Nat) (f : Nat → Nat) : ((List.range n).map f).length = n := by rw [List.length_map, List.length_range]
/-- the swap of k and its next -/
def sw (k i : Nat) : Nat := if i = k then k + 1 else if i = k + 1 then k else i
theorem sw_sw (k i : Nat) : sw k (sw k i) = i := by unfold sw; split <;> split <;> (try split) <;> omega
theorem sw_lt {k i n : Nat} (hk : k + 1 < n) (hi : i < n) : sw k i < n := by unfold sw; split <;> (try split) <;> omega
def adj (n k : Nat) : List Nat := (List.range n).map (sw k)
theorem adj_len (n k : Nat) : (adj n k).length = n := mr_len n _
theorem adj_get {n k i : Nat} (h : i < n) : (adj n k).getD i 0 = sw k i := mr_get h
theorem isP_mr {n : Nat} {f : Nat → Nat} (h1 : ∀ i, i < n → f i < n) (h2 : ∀ i j, i < n → j < n → f i = f j → i = j) : IsP n ((List.range n).map f) := by
  refine isP_of_nd (nd_of_getD fun i j hi hj e => ?_) (mr_len n f) fun x hx => ?_
  · rw [mr_len] at hi hj
    rw [mr_get hi, mr_get hj] at e
    exact h2 i j hi hj e
  · obtain ⟨i, hi, rfl⟩ := List.mem_map.mp hx
    exact h1 i (List.mem_range.mp hi)
theorem isP_adj {n k : Nat} (hk : k + 1 < n) : IsP n (adj n k) := isP_mr (fun i hi => sw_lt hk hi) fun i j _ _ e => by rw [← sw_sw k i, ← sw_sw k j, e]
theorem adj_adj {n k : Nat} (hk : k + 1 < n) : jn (adj n k) (adj n k) = List.range n := by
  refine ext_getD (by rw [jn_len, adj_len, List.length_range]) fun i hi => ?_
  rw [jn_len, adj_len] at hi
  rw [jn_get (by rw [adj_len]; exact hi), adj_get hi, adj_get (sw_lt hk hi), sw_sw, range_getD hi]
theorem adj_jn {n k i : Nat} {a : List Nat} (hi : i < n) : (jn (adj n k) a).getD i 0 = a.getD (sw k i) 0 := by
  rw [jn_get (by rw [adj_len]; exact hi), adj_get hi]
theorem adj_twice {n k : Nat} {a : List Nat} (pa : IsP n a) (hk : k + 1 < n) : jn (adj n k) (jn (adj n k) a) = a := by
  rw [← jn_assocP (isP_adj hk) (isP_adj hk), adj_adj hk, id_jnP pa]
/-- how many pairs stand the wrong way -/
def inv : List Nat → Nat
  | [] => 0
  | x :: l => (l.filter fun y => decide (y < x)).length + inv l
theorem inv_swap {x y : Nat} (h : x < y) (v : List Nat) : ∀ u : List Nat, inv (u ++ y :: x :: v) = inv (u ++ x :: y :: v) + 1
  | [] => by
    show ((x :: v).filter fun z => decide (z < y)).length + ((v.filter fun z => decide (z < x)).length + inv v) = ((y :: v).filter fun z => decide (z < x)).length + ((v.filter fun z => decide (z < y)).length + inv v) + 1
    rw [List.filter_cons_of_pos (by simpa using h), List.filter_cons_of_neg (by simp; omega), List.length_cons]
    omega
  | z :: u => by
    show ((u ++ y :: x :: v).filter fun t => decide (t < z)).length + inv (u ++ y :: x :: v) = ((u ++ x :: y :: v).filter fun t => decide (t < z)).length + inv (u ++ x :: y :: v) + 1
    have e : ((u ++ y :: x :: v).filter fun t => decide (t < z)).length = ((u ++ x :: y :: v).filter fun t => decide (t < z)).length := ((List.Perm.append_left u (List.Perm.swap x y v)).filter _).length_eq
    rw [e, inv_swap h v u] <;> omega
theorem cut2 {a : List Nat} {k : Nat} (h : k + 1 < a.length) : a = a.take k ++ a.getD k 0 :: a.getD (k + 1) 0 :: a.drop (k + 2) := by
  have e1 : a.getD k 0 = a[k] := by rw [List.getD_eq_getElem?_getD, List.getElem?_eq_getElem (by omega)] <;> rfl
  have e2 : a.getD (k + 1) 0 = a[k + 1] := by rw [List.getD_eq_getElem?_getD, List.getElem?_eq_getElem h] <;> rfl
  rw [e1, e2, ← List.drop_eq_getElem_cons h, ← List.drop_eq_getElem_cons (by omega), List.take_append_drop]
theorem app_getD (a b : List Nat) (i : Nat) : (a ++ b).getD i 0 = if i < a.length then a.getD i 0 else b.getD (i - a.length) 0 := by
  rw [List.getD_eq_getElem?_getD]
  by_cases h : i < a.length
  · rw [if_pos h, List.getElem?_append_left h, List.getD_eq_getElem?_getD]
  · rw [if_neg h, List.getElem?_append_right (by omega), List.getD_eq_getElem?_getD]
theorem sw_l (k : Nat) : sw k k = k + 1 := if_pos rfl
theorem sw_r (k : Nat) : sw k (k + 1) = k := by unfold sw; rw [if_neg (by omega), if_pos rfl]
theorem sw_o {k i : Nat} (h1 : i ≠ k) (h2 : i ≠ k + 1) : sw k i = i := by unfold sw; rw [if_neg h1, if_neg h2]
theorem adj_cut {n k : Nat} {a : List Nat} (hl : a.length = n) (hk : k + 1 < n) : jn (adj n k) a = a.take k ++ a.getD (k + 1) 0 :: a.getD k 0 :: a.drop (k + 2) := by
  have hle : (a.take k).length = k := by rw [List.length_take]; omega
  refine ext_getD (by rw [jn_len, adj_len, List.length_append, hle, List.length_cons, List.length_cons, List.length_drop]; omega) fun i hi => ?_
  rw [jn_len, adj_len] at hi
  rw [adj_jn hi, app_getD, hle]
  by_cases c : i < k
  · rw [if_pos c, sw_o (by omega) (by omega)]
    have e := congrArg (fun l => l.getD i 0) (cut2 (a := a) (k := k) (by omega))
    rw [show a.getD i 0 = _ from e]
    show (a.take k ++ _).getD i 0 = _
    rw [app_getD, hle, if_pos c]
  · rw [if_neg c]
    by_cases c1 : i = k
    · rw [c1, sw_l, Nat.sub_self] <;> rfl
    · by_cases c2 : i = k + 1
      · rw [c2, sw_r, Nat.add_sub_cancel_left] <;> rfl
      · rw [sw_o c1 c2]
        obtain ⟨d, rfl⟩ : ∃ d, i = k + 2 + d := ⟨i - (k + 2), by omega⟩
        rw [show k + 2 + d - k = d + 2 by omega]
        have e := congrArg (fun l => l.getD (k + 2 + d) 0) (cut2 (a := a) (k := k) (by omega))
        rw [show a.getD (k + 2 + d) 0 = _ from e]
        show (a.take k ++ _).getD (k + 2 + d) 0 = _
        rw [app_getD, hle, if_neg c, show k + 2 + d - k = d + 2 by omega] <;> rfl
theorem inv_adj {n k : Nat} {a : List Nat} (hl : a.length = n) (hk : k + 1 < n) (h : a.getD k 0 < a.getD (k + 1) 0) : inv (jn (adj n k) a) = inv a + 1 := by
  rw [adj_cut hl hk, inv_swap h]
  exact congrArg (fun l => inv l + 1) (cut2 (a := a) (k := k) (by omega)).symm
theorem inv_adj' {n k : Nat} {a : List Nat} (hl : a.length = n) (hk : k + 1 < n) (h : a.getD (k + 1) 0 < a.getD k 0) : inv a = inv (jn (adj n k) a) + 1 := by
  have e := inv_swap h (a.drop (k + 2)) (a.take k)
  rw [← cut2 (a := a) (k := k) (by omega)] at e
  rw [adj_cut hl hk, e]
/-- rising all along: at rest -/
theorem rising_rest {n : Nat} {a : List Nat} (pa : IsP n a) (h : ∀ k, k + 1 < n → ¬ a.getD (k + 1) 0 < a.getD k 0) : a = List.range n := by
  have up : ∀ k, k + 1 < n → a.getD k 0 < a.getD (k + 1) 0 := fun k hk => by
    have h1 := h k hk
    have h2 : a.getD k 0 ≠ a.getD (k + 1) 0 := fun e => by
      have := nd_getD pa.nd (by rw [pa.len]; omega) (by rw [pa.len]; omega) e
      omega
    omega
  have lo : ∀ k, k < n → k ≤ a.getD k 0 := fun k => by
    induction k with
    | zero => intro _; exact Nat.zero_le _
    | succ k ih => intro hk; have := ih (by omega); have := up k hk; omega
  have hi : ∀ d k, k + d + 1 = n → a.getD k 0 ≤ k := fun d => by
    induction d with
    | zero => intro k hk; have := pa.getD_lt (i := k) (by omega); omega
    | succ d ih => intro k hk; have := ih (k + 1) (by omega); have := up k (by omega); omega
  refine ext_getD (by rw [pa.len, List.length_range]) fun i hi' => ?_
  rw [pa.len] at hi'
  rw [range_getD hi']
  have := lo i hi'
  have := hi (n - 1 - i) i (by omega)
  omega
/-- every seating comes of swaps of neighbours, each of which puts two the wrong way -/
theorem bub_ind {n : Nat} {P : List Nat → Prop} (h0 : P (List.range n)) (hs : ∀ a k, IsP n a → k + 1 < n → a.getD k 0 < a.getD (k + 1) 0 → P a → P (jn (adj n k) a)) : ∀ a, IsP n a → P a := by
  have key : ∀ m a, inv a = m → IsP n a → P a := fun m => by
    induction m with
    | zero =>
      intro a e pa
      by_cases c : ∃ k, k + 1 < n ∧ a.getD (k + 1) 0 < a.getD k 0
      · obtain ⟨k, hk, c⟩ := c
        have := inv_adj' pa.len hk c
        omega
      · rw [rising_rest pa fun k hk hc => c ⟨k, hk, hc⟩]; exact h0
    | succ m ih =>
      intro a e pa
      by_cases c : ∃ k, k + 1 < n ∧ a.getD (k + 1) 0 < a.getD k 0
      · obtain ⟨k, hk, c⟩ := c
        have e1 := inv_adj' pa.len hk c
        have p1 := isP_jn (isP_adj hk) pa
        have := hs (jn (adj n k) a) k p1 hk (by
          rw [adj_jn (by omega), adj_jn (by omega)]
          rw [sw_l, sw_r]; exact c) (ih _ (by omega) p1)
        rw [adj_twice pa hk] at this
        exact this
      · rw [rising_rest pa fun k hk hc => c ⟨k, hk, hc⟩]; exact h0
  exact fun a pa => key _ a rfl pa
def ev (a : List Nat) : Bool := inv a % 2 == 0
theorem inv_range (n : Nat) : inv (List.range n) = 0 := by
  have : ∀ (d s : Nat), inv ((List.range d).map (s + ·)) = 0 := fun d => by
    induction d with
    | zero => intro s; rfl
    | succ d ih =>
      intro s
      rw [List.range_succ_eq_map, List.map_cons, List.map_map]
      show (List.filter _ _).length + inv _ = 0
      have e : ((s + ·) ∘ Nat.succ : Nat → Nat) = (s + 1 + ·) := by funext x; show s + (x + 1) = s + 1 + x; omega
      rw [e, ih (s + 1), List.filter_eq_nil_iff.mpr] <;> try rfl
      intro y hy
      obtain ⟨z, _, rfl⟩ := List.mem_map.mp hy
      simp
      omega
  have := this n 0
  rw [show ((0 + ·) : Nat → Nat) = id from funext fun x => Nat.zero_add x, List.map_id] at this
  exact this
theorem ev_range (n : Nat) : ev (List.range n) = true := by unfold ev; rw [inv_range] <;> rfl
theorem ev_adj {n k : Nat} {a : List Nat} (pa : IsP n a) (hk : k + 1 < n) : ev (jn (adj n k) a) = !ev a := by
  have hne : a.getD k 0 ≠ a.getD (k + 1) 0 := fun e => by
    have := nd_getD pa.nd (by rw [pa.len]; omega) (by rw [pa.len]; omega) e
    omega
  unfold ev
  rcases Nat.lt_or_gt_of_ne hne with c | c
  · rw [inv_adj pa.len hk c]
    rcases Nat.mod_two_eq_zero_or_one (inv a) with d | d
    · rw [d, show (inv a + 1) % 2 = 1 by omega] <;> rfl
    · rw [d, show (inv a + 1) % 2 = 0 by omega] <;> rfl
  · rw [inv_adj' pa.len hk c]
    rcases Nat.mod_two_eq_zero_or_one (inv (jn (adj n k) a)) with d | d
    · rw [d, show (inv (jn (adj n k) a) + 1) % 2 = 1 by omega] <;> rfl
    · rw [d, show (inv (jn (adj n k) a) + 1) % 2 = 0 by omega] <;> rfl
/-- one behind the other -/
theorem ev_jn {n : Nat} {a b : List Nat} (pa : IsP n a) (pb : IsP n b) : ev (jn a b) = (ev a == ev b) := by
  refine bub_ind (n := n) (P := fun a => ∀ b, IsP n b → ev (jn a b) = (ev a == ev b)) (fun b pb => ?_) (fun a k pa hk _ ih b pb => ?_) a pa b pb
  · rw [id_jnP pb, ev_range]; cases ev b <;> rfl
  · rw [jn_assocP (isP_adj hk) pa, ev_adj (isP_jn pa pb) hk, ih b pb, ev_adj pa hk]
    cases ev a <;> cases ev b <;> rfl
theorem ev_trn {n : Nat} {a : List Nat} (pa : IsP n a) : ev (trn a) = ev a := by
  have h := ev_jn pa (isP_trn pa)
  rw [jn_trn pa, ev_range] at h
  cases e1 : ev a <;> cases e2 : ev (trn a) <;> rw [e1, e2] at h <;> first | rfl | cases h

/-! ### under other names -/
/-- the seating row, the seats named by o -/
def nam (o x : List Nat) : List Nat := jn (jn (trn o) x) o
theorem isP_nam {n : Nat} {o x : List Nat} (po : IsP n o) (px : IsP n x) : IsP n (nam o x) := isP_jn (isP_jn (isP_trn po) px) po
theorem nam_jn {n : Nat} {o x y : List Nat} (po : IsP n o) (px : IsP n x) (py : IsP n y) : nam o (jn x y) = jn (nam o x) (nam o y) := by
  have pt := isP_trn po
  unfold nam
  rw [jn_assocP (isP_jn pt px) po, ← jn_assocP po (isP_jn pt py), ← jn_assocP po pt, jn_trn po, id_jnP py, ← jn_assocP (isP_jn pt px) py, jn_assocP pt px]
theorem nam_id {n : Nat} {o : List Nat} (po : IsP n o) : nam o (List.range n) = List.range n := by
  unfold nam
  rw [jn_idP (isP_trn po), trn_jn po]
theorem trn2 {n : Nat} {o : List Nat} (po : IsP n o) : trn (trn o) = o := (inv_uniq (isP_trn po) po (jn_trn po)).symm
theorem nam_back {n : Nat} {o x : List Nat} (po : IsP n o) (px : IsP n x) : nam (trn o) (nam o x) = x := by
  have pt := isP_trn po
  unfold nam
  rw [trn2 po, ← jn_assocP po (isP_jn pt px), ← jn_assocP po pt, jn_trn po, id_jnP px, jn_assocP px po, jn_trn po, jn_idP px]
theorem nam_back' {n : Nat} {o x : List Nat} (po : IsP n o) (px : IsP n x) : nam o (nam (trn o) x) = x := by
  have := nam_back (isP_trn po) px
  rw [trn2 po] at this
  exact this
theorem gen_nam {n : Nat} {o : List Nat} {moves : List (List Nat)} (po : IsP n o) (hm : ∀ m ∈ moves, IsP n m) {x : List Nat} (h : Gen n moves x) : Gen n (moves.map (nam o)) (nam o x) := by
  induction h with
  | one => rw [nam_id po]; exact .one
  | mul h m ih =>
    rw [nam_jn po (Gen.isP hm h) (hm _ m)]
    exact .mul ih (List.mem_map.mpr ⟨_, m, rfl⟩)
theorem gen_nam_iff {n : Nat} {o : List Nat} {moves : List (List Nat)} (po : IsP n o) (hm : ∀ m ∈ moves, IsP n m) {x : List Nat} (px : IsP n x) : Gen n (moves.map (nam o)) (nam o x) ↔ Gen n moves x := by
  refine ⟨fun h => ?_, gen_nam po hm⟩
  have h2 := gen_nam (isP_trn po) (fun m hm' => by
    obtain ⟨y, hy, rfl⟩ := List.mem_map.mp hm'
    exact isP_nam po (hm y hy)) h
  rw [nam_back po px, List.map_map] at h2
  have e : moves.map (nam (trn o) ∘ nam o) = moves := by
    conv => rhs; rw [← List.map_id moves]
    exact List.map_congr_left fun y hy => nam_back po (hm y hy)
  rw [e] at h2
  exact h2
theorem ev_nam {n : Nat} {o x : List Nat} (po : IsP n o) (px : IsP n x) : ev (nam o x) = ev x := by
  unfold nam
  rw [ev_jn (isP_jn (isP_trn po) px) po, ev_jn (isP_trn po) px, ev_trn po]
  cases ev o <;> cases ev x <;> rfl

/-! ### a swap and the ring of all -/
def cycF (n i : Nat) : Nat := if i + 1 = n then 0 else i + 1
def cyc (n : Nat) : List Nat := (List.range n).map (cycF n)
def rot (n k : Nat) : List Nat := (List.range n).map fun i => (i + k) % n
theorem isP_rot {n : Nat} (hn : 0 < n) (k : Nat) : IsP n (rot n k) := isP_mr (fun i _ => Nat.mod_lt _ hn) fun i j hi hj e => by
  have e1 := Nat.div_add_mod (i + k) n
  have e2 := Nat.div_add_mod (j + k) n
  have e : (i + k) % n = (j + k) % n := e
  rw [e] at e1
  rcases Nat.lt_trichotomy ((i + k) / n) ((j + k) / n) with c | c | c
  · have := Nat.mul_le_mul_left n (Nat.succ_le_of_lt c)
    rw [Nat.mul_succ] at this
    omega
  · rw [c] at e1; omega
  · have := Nat.mul_le_mul_left n (Nat.succ_le_of_lt c)
    rw [Nat.mul_succ] at this
    omega
theorem isP_cyc {n : Nat} : IsP n (cyc n) := isP_mr (fun i hi => by unfold cycF; split <;> omega) fun i j hi hj e => by
  unfold cycF at e
  split at e <;> split at e <;> omega
theorem rot_succ {n k : Nat} (hn : 0 < n) : jn (rot n k) (cyc n) = rot n (k + 1) := by
  refine ext_getD (by unfold rot; rw [jn_len, mr_len, mr_len]) fun i hi => ?_
  unfold rot at hi
  rw [jn_len, mr_len] at hi
  have hlt : (i + k) % n < n := Nat.mod_lt _ hn
  unfold rot
  rw [jn_get (by rw [mr_len]; exact hi), mr_get hi, mr_get hi]
  unfold cyc
  rw [mr_get hlt, ← Nat.add_assoc]
  unfold cycF
  have e := Nat.add_mod (i + k) 1 n
  split
  · rename_i c
    by_cases c1 : n = 1
    · subst c1; rw [Nat.mod_one]
    · rw [e, Nat.mod_eq_of_lt (show 1 < n by omega), c, Nat.mod_self]
  · rename_i c
    rw [e, Nat.mod_eq_of_lt (show 1 < n by omega), Nat.mod_eq_of_lt (show (i + k) % n + 1 < n by omega)]
theorem rot_gen {n : Nat} (hn : 0 < n) {moves : List (List Nat)} (hc : cyc n ∈ moves) : ∀ k, Gen n moves (rot n k)
  | 0 => by
    have : rot n 0 = List.range n := by
      unfold rot
      conv => rhs; rw [← List.map_id (List.range n)]
      exact List.map_congr_left fun x hx => Nat.mod_eq_of_lt (List.mem_range.mp hx)
    rw [this]; exact .one
  | k + 1 => by rw [← rot_succ hn]; exact .mul (rot_gen hn hc k) hc
theorem rot_adj {n k : Nat} (hk : k + 1 < n) : jn (rot n k) (adj n k) = jn (adj n 0) (rot n k) := by
  have hn : 0 < n := by omega
  refine ext_getD (by unfold rot; rw [jn_len, jn_len, mr_len, adj_len]) fun i hi => ?_
  unfold rot at hi
  rw [jn_len, mr_len] at hi
  rw [adj_jn hi, jn_get (by unfold rot; rw [mr_len]; exact hi)]
  have hs : sw 0 i < n := sw_lt (by omega) hi
  unfold rot
  rw [mr_get hi, mr_get hs, adj_get (Nat.mod_lt _ hn)]
  by_cases c0 : i = 0
  · rw [c0, sw_l, Nat.zero_add, Nat.mod_eq_of_lt (show k < n by omega), sw_l, Nat.zero_add, Nat.add_comm 1 k, Nat.mod_eq_of_lt hk]
  · by_cases c1 : i = 1
    · have e1 : (1 + k) % n = k + 1 := by rw [Nat.add_comm]; exact Nat.mod_eq_of_lt hk
      rw [c1, e1, sw_r, show sw 0 1 = 0 from sw_r 0, Nat.zero_add, Nat.mod_eq_of_lt (by omega)]
    · have e1 := Nat.div_add_mod (i + k) n
      have hlt := Nat.mod_lt (i + k) hn
      have h2 : (i + k) / n < 2 := Nat.div_lt_of_lt_mul (by omega)
      generalize (i + k) / n = d at *
      have h3 : d = 0 ∨ d = 1 := by omega
      rw [sw_o (k := 0) c0 (by omega)]
      refine sw_o ?_ ?_
      · rcases h3 with c | c
        · rw [c, Nat.mul_zero] at e1; omega
        · rw [c, Nat.mul_one] at e1; omega
      · rcases h3 with c | c
        · rw [c, Nat.mul_zero] at e1; omega
        · rw [c, Nat.mul_one] at e1; omega
theorem adj_gen {n : Nat} {moves : List (List Nat)} (hm : ∀ m ∈ moves, IsP n m) (hc : cyc n ∈ moves) (hs : adj n 0 ∈ moves) {k : Nat} (hk : k + 1 < n) : Gen n moves (adj n k) := by
  have hn : 0 < n := by omega
  have e : adj n k = jn (trn (rot n k)) (jn (adj n 0) (rot n k)) := by
    rw [← rot_adj hk, ← jn_assocP (isP_trn (isP_rot hn k)) (isP_rot hn k), trn_jn (isP_rot hn k), id_jnP (isP_adj hk)]
  rw [e]
  exact Gen.jn hm (Gen.trn hm (rot_gen hn hc k)) (Gen.jn hm (Gen.move hm hs) (rot_gen hn hc k))
/-- what has all swaps of neighbours reaches all -/
theorem gen_all {n : Nat} {moves : List (List Nat)} (hm : ∀ m ∈ moves, IsP n m) (ha : ∀ k, k + 1 < n → Gen n moves (adj n k)) : ∀ a, IsP n a → Gen n moves a :=
  bub_ind .one fun a k _ hk _ ih => Gen.jn hm (ha k hk) ih
theorem gen_swcyc {n : Nat} {moves : List (List Nat)} (hm : ∀ m ∈ moves, IsP n m) (hc : cyc n ∈ moves) (hs : adj n 0 ∈ moves) : ∀ a, IsP n a → Gen n moves a := gen_all hm fun _ hk => adj_gen hm hc hs hk

/-! ### rings of three -/
def tri (n k : Nat) : List Nat := (List.range n).map fun i => if i = k then k + 1 else if i = k + 1 then k + 2 else if i = k + 2 then k else i
theorem tri_eq {n k : Nat} (hk : k + 2 < n) : tri n k = jn (adj n (k + 1)) (adj n k) := by
  refine ext_getD (by unfold tri; rw [jn_len, mr_len, adj_len]) fun i hi => ?_
  unfold tri at hi
  rw [mr_len] at hi
  unfold tri
  rw [mr_get hi, adj_jn hi, adj_get (sw_lt (by omega) hi)]
  unfold sw
  split <;> (try split) <;> (try split) <;> (try split) <;> (try split) <;> omega
theorem isP_tri {n k : Nat} (hk : k + 2 < n) : IsP n (tri n k) := by rw [tri_eq hk]; exact isP_jn (isP_adj (by omega)) (isP_adj (by omega))
theorem two_gen {n : Nat} {moves : List (List Nat)} (hm : ∀ m ∈ moves, IsP n m) (ht : ∀ k, k + 2 < n → tri n k ∈ moves) : ∀ d i, i + d + 1 < n → Gen n moves (jn (adj n (i + d)) (adj n i))
  | 0, i, h => by rw [Nat.add_zero, adj_adj (by omega)]; exact .one
  | d + 1, i, h => by
    have ih := two_gen hm ht d i (by omega)
    have e : jn (adj n (i + (d + 1))) (adj n i) = jn (jn (adj n (i + d + 1)) (adj n (i + d))) (jn (adj n (i + d)) (adj n i)) := by
      have p1 : IsP n (adj n (i + d)) := isP_adj (by omega)
      have p2 : IsP n (adj n (i + d + 1)) := isP_adj (by omega)
      rw [jn_assocP p2 p1, ← jn_assocP p1 p1, adj_adj (by omega), id_jnP (isP_adj (by omega))] <;> rfl
    rw [e, ← tri_eq (by omega)]
    exact Gen.jn hm (Gen.move hm (ht _ (by omega))) ih
theorem trn_adj2 {n i j : Nat} (hi : i + 1 < n) (hj : j + 1 < n) : trn (jn (adj n i) (adj n j)) = jn (adj n j) (adj n i) := by
  have p1 : IsP n (adj n i) := isP_adj hi
  have p2 : IsP n (adj n j) := isP_adj hj
  refine (inv_uniq (isP_jn p1 p2) (isP_jn p2 p1) ?_).symm
  rw [jn_assocP p2 p1, ← jn_assocP p1 p1, adj_adj hi, id_jnP p2, adj_adj hj]
theorem two_gen' {n : Nat} {moves : List (List Nat)} (hm : ∀ m ∈ moves, IsP n m) (ht : ∀ k, k + 2 < n → tri n k ∈ moves) {i j : Nat} (hi : i + 1 < n) (hj : j + 1 < n) : Gen n moves (jn (adj n i) (adj n j)) := by
  rcases Nat.le_total i j with c | c
  · have := two_gen hm ht (j - i) i (by omega)
    rw [show i + (j - i) = j by omega] at this
    rw [← trn_adj2 hj hi]
    exact Gen.trn hm this
  · have := two_gen hm ht (i - j) j (by omega)
    rw [show j + (i - j) = i by omega] at this
    exact this
theorem gen_even {n : Nat} (hn : 2 ≤ n) {moves : List (List Nat)} (hm : ∀ m ∈ moves, IsP n m) (ht : ∀ k, k + 2 < n → tri n k ∈ moves) : ∀ a, IsP n a → (ev a = true → Gen n moves a) ∧ (ev a = false → Gen n moves (jn (adj n 0) a)) := by
  refine bub_ind ⟨fun _ => .one, fun h => by rw [ev_range] at h; cases h⟩ fun a k pa hk _ ih => ⟨fun h => ?_, fun h => ?_⟩
  · rw [ev_adj pa hk] at h
    have := ih.2 (by cases e : ev a with | false => rfl | true => rw [e] at h; cases h)
    have e : jn (adj n k) a = jn (jn (adj n k) (adj n 0)) (jn (adj n 0) a) := by
      rw [jn_assocP (isP_adj hk) (isP_adj (by omega)), adj_twice pa (by omega)]
    rw [e]
    exact Gen.jn hm (two_gen' hm ht hk (by omega)) this
  · rw [ev_adj pa hk] at h
    have := ih.1 (by cases e : ev a with | true => rfl | false => rw [e] at h; cases h)
    rw [← jn_assocP (isP_adj (by omega)) (isP_adj hk)]
    exact Gen.jn hm (two_gen' hm ht (by omega) hk) this
theorem ev_tri {n k : Nat} (hk : k + 2 < n) : ev (tri n k) = true := by
  rw [tri_eq hk, ev_adj (isP_adj (by omega)) (by omega)]
  have e : ev (adj n k) = false := by
    have := ev_adj (a := List.range n) (isP_id n) (k := k) (by omega)
    rw [jn_idP (isP_adj (by omega)), ev_range] at this
    exact this
  rw [e] <;> rfl
theorem even_of_gen {n : Nat} {moves : List (List Nat)} (hm : ∀ m ∈ moves, IsP n m) (he : ∀ m ∈ moves, ev m = true) {a : List Nat} (h : Gen n moves a) : ev a = true := by
  induction h with
  | one => exact ev_range n
  | mul h m ih => rw [ev_jn (Gen.isP hm h) (hm _ m), ih, he _ m] <;> rfl
end Shf

/-! the number of a seating among all, among the even ones -/
namespace Shf
open PySem L2
theorem permsF_perm : ∀ (f : Nat) (l a : List Nat), l.length = f → a ∈ permsF f l → a.Perm l
  | 0, l, a, hl, h => by
    have h : a ∈ [[]] := h
    rw [List.mem_singleton.mp h, List.length_eq_zero_iff.mp hl]
  | f + 1, l, a, hl, h => by
    have h : a ∈ l.flatMap fun x => (permsF f (l.erase x)).map (x :: ·) := h
    obtain ⟨x, hx, h⟩ := List.mem_flatMap.mp h
    obtain ⟨b, hb, rfl⟩ := List.mem_map.mp h
    have := permsF_perm f (l.erase x) b (by rw [List.length_erase_of_mem hx, hl] <;> rfl) hb
    exact (this.cons x).trans (List.perm_cons_erase hx).symm
theorem lex_cons {x : Nat} {a b : List Nat} : LexLt a b → LexLt (x :: a) (x :: b) := fun ⟨k, k1, k2, k3⟩ => ⟨k + 1, Nat.succ_lt_succ k1, fun t ht => by
  cases t with
  | zero => rfl
  | succ t => exact k2 t (by omega), k3⟩
theorem permsF_lex : ∀ (f : Nat) (l : List Nat), l.length = f → l.Pairwise (· < ·) → (permsF f l).Pairwise LexLt
  | 0, _, _, _ => List.pairwise_singleton _ _
  | f + 1, l, hl, hs => by
    show (l.flatMap fun x => (permsF f (l.erase x)).map (x :: ·)).Pairwise LexLt
    have ih : ∀ x ∈ l, (permsF f (l.erase x)).Pairwise LexLt := fun x hx => permsF_lex f _ (by rw [List.length_erase_of_mem hx, hl] <;> rfl) (hs.sublist List.erase_sublist)
    have key : ∀ r : List Nat, (∀ x ∈ r, x ∈ l) → r.Pairwise (· < ·) → (r.flatMap fun x => (permsF f (l.erase x)).map (x :: ·)).Pairwise LexLt := by
      intro r
      induction r with
      | nil => intro _ _; exact List.Pairwise.nil
      | cons x r ihr =>
        intro hr hp
        obtain ⟨r1, r2⟩ := List.pairwise_cons.mp hp
        rw [List.flatMap_cons]
        refine List.pairwise_append.mpr ⟨?_, ihr (fun q hq => hr q (List.mem_cons_of_mem _ hq)) r2, fun a ha b hb => ?_⟩
        · exact List.pairwise_map.mpr ((ih x (hr x List.mem_cons_self)).imp fun h => lex_cons h)
        · obtain ⟨q, hq, hb⟩ := List.mem_flatMap.mp hb
          obtain ⟨a', _, rfl⟩ := List.mem_map.mp ha
          obtain ⟨b', _, rfl⟩ := List.mem_map.mp hb
          exact ⟨0, Nat.succ_pos _, fun t ht => absurd ht (Nat.not_lt_zero t), r1 q hq⟩
    exact key l (fun _ h => h) hs
theorem range_lt (n : Nat) : (List.range n).Pairwise (· < ·) := List.pairwise_lt_range
theorem enum_uniq {B : Bk} {moves : List (List Nat)} (C : Closed B moves) (hm : ∀ m ∈ moves, IsP B.n m) {l : List (List Nat)} (hs : l.Pairwise LexLt) (hl : ∀ a, a ∈ l ↔ Gen B.n moves a) : enumB B = l := by
  have ok := C.ok
  have nd : l.Nodup := hs.imp fun hlt e => by subst e; exact hlt.irrefl
  have hmem : ∀ a, a ∈ enumB B ↔ a ∈ l := fun a => by
    rw [enumB_mem ok, hl]
    exact ⟨fun s => sk_gen C hm s, fun s => gen_sk C hm s⟩
  have lenG : ∀ a ∈ enumB B, a.length = B.n := fun a ha => (((enumB_mem ok a).mp ha).isP ok).len
  refine List.Perm.eq_of_pairwise (le := LexLt) (fun a b ha hb h1 h2 => ?_) (enumB_lex ok) hs ((List.perm_ext_iff_of_nodup (enumB_nd ok) nd).mpr hmem)
  exact absurd h2 fun h2 => LexLt.asymm (by rw [lenG a ha, lenG b ((hmem b).mpr hb)]) h1 h2
/-- all are reached -/
theorem enum_all {B : Bk} {moves : List (List Nat)} (C : Closed B moves) (hm : ∀ m ∈ moves, IsP B.n m) (h : ∀ a, IsP B.n a → Gen B.n moves a) : enumB B = permsF B.n (List.range B.n) :=
  enum_uniq C hm (permsF_lex _ _ List.length_range (range_lt _)) fun a => ⟨fun ha => h a (permsF_perm _ _ a List.length_range ha), fun g => permsF_mem _ _ a (Gen.isP hm g).len (Gen.isP hm g)⟩
end Shf

/-! whole rooms of many seats: what is walked; law k22 -/
namespace Shf
open PySem L2
theorem rgV_N2 (i n : Nat) : rgV (i : Int) (n : Int) = vN ((List.range (n - i)).map (i + ·)) := by
  show (List.range ((n : Int) - (i : Int)).toNat).map _ = ((List.range (n - i)).map _).map _
  rw [List.map_map, show ((n : Int) - (i : Int)).toNat = n - i by omega]
  exact List.map_congr_left fun x _ => by show V.int _ = V.int _; rw [Int.natCast_add]
theorem vN_cat (a b : List Nat) : vN a ++ vN b = vN (a ++ b) := (List.map_append ..).symm
theorem cat_N {H : Hp} {Q : VK} {l m : Addr} {a b : List Nat} (hl : H l = some (.lst (vN a))) (hb : H m = some (.lst (vN b))) (hz : a.length + b.length ≤ 100000) (k : ∀ p, H p = none → Q (.ref p) (upd H p (.lst (vN (a ++ b))))) : rCat (.ref l) (.ref m) H Q :=
  ⟨l, m, vN a, vN b, rfl, rfl, hl, hb, by rw [vN_len, vN_len]; exact zl hz, fun p hp => by rw [vN_cat]; exact k p hp⟩
theorem idx_N {K : PySem.W.Frag} {H : Hp} {Q : VK} {p : Addr} {a : List Nat} {x : Nat} (h : SqL K H p (vN a)) (hx : x ∈ a) (q : Q (.int ((a.idxOf x : Nat) : Int)) H) : rIndex K (.ref p) [.int (x : Int)] H Q := by
  refine ⟨p, vN a, .int (x : Int), a.idxOf x, .int (x : Int), rfl, rfl, h, rfl, ?_, vN_at ?_, by simp [eqV], fun m z hm hz => ?_, q⟩
  · rw [List.all_eq_true]
    intro v hv
    obtain ⟨y, _, rfl⟩ := List.mem_map.mp hv
    rfl
  · rw [List.getElem?_eq_getElem (List.idxOf_lt_length_of_mem hx), List.getElem_idxOf]
  · obtain ⟨y, hy, rfl⟩ := vN_get hz
    have hm' : m < a.findIdx (· == x) := hm
    have hml : m < a.length := (List.getElem?_eq_some_iff.mp hy).1
    have := List.not_of_lt_findIdx hm'
    have ey : a[m] = y := (List.getElem?_eq_some_iff.mp hy).2
    rw [ey] at this
    have hne : y ≠ x := beq_eq_false_iff_ne.mp this
    have : ((y : Nat) : Int) ≠ ((x : Nat) : Int) := fun e => hne (by omega)
    simp [eqV, this]
theorem w_rgB {ta tb : TE} {σ : L2.St} {H : Hp} {QR : Int → Int → Hp → Prop} (h : ta σ H fun x H1 => tb σ H1 fun y H2 => ∃ i j, x = .int i ∧ y = .int j ∧ QR i j H2) : tRg2 ta tb σ H QR := h
end Shf

/-! law k22 -/
namespace Shf
open PySem L2
theorem range1_getD {s d i : Nat} (h : i < d) : ((List.range d).map (s + ·)).getD i 0 = s + i := mr_get h
theorem adj0_eq {n : Nat} (hn : 2 ≤ n) : [1, 0] ++ (List.range (n - 2)).map (2 + ·) = adj n 0 := by
  refine ext_getD (by rw [List.length_append, mr_len, adj_len]; show 2 + (n - 2) = n; omega) fun i hi => ?_
  rw [List.length_append, mr_len] at hi
  have hi : i < 2 + (n - 2) := hi
  rw [app_getD, adj_get (by omega)]
  by_cases c0 : i = 0
  · subst c0; rw [if_pos (by decide)] <;> rfl
  · by_cases c1 : i = 1
    · subst c1; rw [if_pos (by decide)] <;> rfl
    · rw [if_neg (by show ¬ i < 2; omega), sw_o (by omega) (by omega)]
      show ((List.range (n - 2)).map (2 + ·)).getD (i - 2) 0 = i
      rw [range1_getD (by omega)]
      omega
theorem cyc_get {n i : Nat} (h : i < n) : (cyc n).getD i 0 = cycF n i := mr_get h
theorem cyc_len (n : Nat) : (cyc n).length = n := mr_len n _
theorem cyc_eq {n : Nat} (hn : 1 ≤ n) : (List.range (n - 1)).map (1 + ·) ++ [0] = cyc n := by
  refine ext_getD (by rw [List.length_append, mr_len, cyc_len]; show n - 1 + 1 = n; omega) fun i hi => ?_
  rw [List.length_append, mr_len] at hi
  have hi : i < n - 1 + 1 := hi
  rw [app_getD, cyc_get (by omega), mr_len]
  unfold cycF
  by_cases c : i + 1 = n
  · rw [if_neg (by omega), if_pos c, show i - (n - 1) = 0 by omega] <;> rfl
  · rw [if_pos (by omega), if_neg c, range1_getD (by omega)]
    omega
end Shf

/-! blocks of seats -/
namespace Shf
open PySem L2
/-- the least seat of a seat's block -/
def lab (c d i : Nat) : Nat := if i < c then 0 else if 4 ≤ i ∧ i < 4 + d then 4 else if 7 ≤ i ∧ i < 9 then 7 else i
theorem lab_mono {c d i j : Nat} (h1 : 2 ≤ c) (h2 : c ≤ 4) (h3 : 2 ≤ d) (h4 : d ≤ 3) (h : i ≤ j) : lab c d i ≤ lab c d j := by
  unfold lab
  split <;> (try split) <;> (try split) <;> (try split) <;> (try split) <;> (try split) <;> omega
def Wi (c d n : Nat) (a : List Nat) : Prop := ∀ k, k < n → lab c d (a.getD k 0) = lab c d k
theorem Wi.id (c d n : Nat) : Wi c d n (List.range n) := fun k hk => by rw [range_getD hk]
theorem Wi.jn {c d n : Nat} {a b : List Nat} (pa : IsP n a) (ha : Wi c d n a) (hb : Wi c d n b) : Wi c d n (jn a b) := fun k hk => by
  rw [jn_get (by rw [pa.len]; exact hk), hb _ (pa.getD_lt hk), ha k hk]
/-- what stands in the place of the seats s .. s + j - 1 -/
def insL (n s : Nat) (row some : List Nat) (j : Nat) : List Nat := (List.range n).map fun k => if s ≤ k ∧ k < s + j then s + some.getD (k - s) 0 else row.getD k 0
theorem insL_len (n s : Nat) (row some : List Nat) (j : Nat) : (insL n s row some j).length = n := mr_len n _
theorem insL_get {n s : Nat} {row some : List Nat} {j k : Nat} (hk : k < n) : (insL n s row some j).getD k 0 = if s ≤ k ∧ k < s + j then s + some.getD (k - s) 0 else row.getD k 0 := mr_get hk
theorem insL_zero {n s : Nat} {row some : List Nat} (hl : row.length = n) : insL n s row some 0 = row := by
  refine ext_getD (by rw [insL_len, hl]) fun k hk => ?_
  rw [insL_len] at hk
  rw [insL_get hk, if_neg (by omega)]
theorem set_getD {a : List Nat} {i v k : Nat} (hi : i < a.length) : (a.set i v).getD k 0 = if k = i then v else a.getD k 0 := by
  rw [List.getD_eq_getElem?_getD, List.getElem?_set]
  by_cases c : i = k
  · rw [if_pos c, if_pos hi, if_pos c.symm] <;> rfl
  · rw [if_neg c, if_neg (fun e => c e.symm), List.getD_eq_getElem?_getD]
theorem insL_succ {n s : Nat} {row some : List Nat} {j : Nat} (hs : s + j < n) : (insL n s row some j).set (s + j) (s + some.getD j 0) = insL n s row some (j + 1) := by
  refine ext_getD (by rw [List.length_set, insL_len, insL_len]) fun k hk => ?_
  rw [List.length_set, insL_len] at hk
  rw [set_getD (by rw [insL_len]; exact hs), insL_get hk, insL_get hk]
  by_cases c : k = s + j
  · rw [if_pos c, if_pos (by omega), c, Nat.add_sub_cancel_left]
  · rw [if_neg c]
    by_cases c2 : s ≤ k ∧ k < s + j
    · rw [if_pos c2, if_pos (by omega)]
    · rw [if_neg c2, if_neg (by omega)]
theorem insL_P {n s c : Nat} {row some : List Nat} (pr : IsP n row) (ps : IsP c some) (hs : s + c ≤ n) (hf : ∀ k, s ≤ k → k < s + c → row.getD k 0 = k) : IsP n (insL n s row some c) := by
  have out : ∀ k, k < n → ¬ (s ≤ k ∧ k < s + c) → ¬ (s ≤ row.getD k 0 ∧ row.getD k 0 < s + c) := fun k hk hn hr => by
    have e := hf _ hr.1 hr.2
    have := nd_getD pr.nd (i := row.getD k 0) (j := k) (by rw [pr.len]; exact pr.getD_lt hk) (by rw [pr.len]; exact hk) e
    rw [this] at hr
    exact hn hr
  refine isP_mr (fun k hk => ?_) fun k k' hk hk' e => ?_
  · split
    · rename_i h
      have := ps.getD_lt (i := k - s) (by omega)
      omega
    · exact pr.getD_lt hk
  · by_cases h : s ≤ k ∧ k < s + c
    · rw [if_pos h] at e
      have i1 := ps.getD_lt (i := k - s) (by omega)
      by_cases h' : s ≤ k' ∧ k' < s + c
      · rw [if_pos h'] at e
        have := nd_getD ps.nd (i := k - s) (j := k' - s) (by rw [ps.len]; omega) (by rw [ps.len]; omega) (by omega)
        omega
      · rw [if_neg h'] at e
        exact absurd ⟨by omega, by omega⟩ (out k' hk' h')
    · rw [if_neg h] at e
      by_cases h' : s ≤ k' ∧ k' < s + c
      · rw [if_pos h'] at e
        have i1 := ps.getD_lt (i := k' - s) (by omega)
        exact absurd ⟨by omega, by omega⟩ (out k hk h)
      · rw [if_neg h'] at e
        exact nd_getD pr.nd (by rw [pr.len]; exact hk) (by rw [pr.len]; exact hk') e
/-- the ring of c seats from s on -/
def rngL (n s c : Nat) : List Nat := insL n s (List.range n) (cyc c) c
theorem isP_rng {n s c : Nat} (hs : s + c ≤ n) : IsP n (rngL n s c) := insL_P (isP_id n) isP_cyc hs fun k _ hk => range_getD (by omega)
def rngF (s c k : Nat) : Nat := if s ≤ k ∧ k < s + c then (if k + 1 = s + c then s else k + 1) else k
theorem rngF_lt {n s c k : Nat} (hs : s + c ≤ n) (hk : k < n) : rngF s c k < n := by unfold rngF; split <;> (try split) <;> omega
theorem rng_get {n s c k : Nat} (hk : k < n) : (rngL n s c).getD k 0 = rngF s c k := by
  unfold rngF
  unfold rngL
  rw [insL_get hk, range_getD hk]
  by_cases h : s ≤ k ∧ k < s + c
  · have e : (cyc c).getD (k - s) 0 = cycF c (k - s) := mr_get (by omega)
    rw [if_pos h, if_pos h, e]
    unfold cycF
    by_cases h2 : k + 1 = s + c
    · rw [if_pos h2, if_pos (by omega), Nat.add_zero]
    · rw [if_neg h2, if_neg (by omega)]; omega
  · rw [if_neg h, if_neg h]
theorem rng_two {n s : Nat} : rngL n s 2 = adj n s := by
  refine ext_getD (by unfold rngL; rw [insL_len, adj_len]) fun k hk => ?_
  have hk : k < n := by unfold rngL at hk; rw [insL_len] at hk; exact hk
  rw [rng_get hk, adj_get hk]
  unfold sw rngF
  split <;> (try split) <;> (try split) <;> (try split) <;> omega
/-- the cuts -/
def cutsOf (c d : Nat) : List (Nat × Nat) := [(0, c), (4, d), (7, 2)]
def blkM (c d n : Nat) : List (List Nat) := (cutsOf c d).flatMap fun p => [rngL n p.1 2, rngL n p.1 p.2]
theorem rng_conj {n s c j : Nat} (hs : s + c ≤ n) (hj : j + 2 < c) : jn (rngL n s c) (adj n (s + j + 1)) = jn (adj n (s + j)) (rngL n s c) := by
  have lr : (rngL n s c).length = n := insL_len ..
  refine ext_getD (by rw [jn_len, jn_len, lr, adj_len]) fun k hk => ?_
  rw [jn_len, lr] at hk
  have hsw : sw (s + j) k < n := sw_lt (by omega) hk
  have e1 : (jn (rngL n s c) (adj n (s + j + 1))).getD k 0 = sw (s + j + 1) (rngF s c k) := by rw [jn_get (by rw [lr]; exact hk), rng_get hk, adj_get (rngF_lt hs hk)]
  have e2 : (jn (adj n (s + j)) (rngL n s c)).getD k 0 = rngF s c (sw (s + j) k) := by rw [adj_jn hk, rng_get hsw]
  rw [e1, e2]
  by_cases c0 : k = s + j
  · rw [c0, sw_l, show rngF s c (s + j) = s + j + 1 by unfold rngF; rw [if_pos (by omega), if_neg (by omega)], sw_l]
    unfold rngF
    rw [if_pos (by omega), if_neg (by omega)]
  · by_cases c1 : k = s + j + 1
    · rw [c1, sw_r, show rngF s c (s + j + 1) = s + j + 1 + 1 by unfold rngF; rw [if_pos (by omega), if_neg (by omega)], sw_r]
      unfold rngF
      rw [if_pos (by omega), if_neg (by omega)]
    · rw [sw_o c0 c1]
      refine sw_o ?_ ?_ <;> (unfold rngF; split <;> (try split) <;> omega)
theorem loc_gen {n s c : Nat} {moves : List (List Nat)} (hm : ∀ m ∈ moves, IsP n m) (hs : s + c ≤ n) (h1 : rngL n s 2 ∈ moves) (h2 : rngL n s c ∈ moves) : ∀ j, j + 1 < c → Gen n moves (adj n (s + j))
  | 0, _ => by rw [Nat.add_zero, ← rng_two]; exact Gen.move hm h1
  | j + 1, h => by
    have ih := loc_gen hm hs h1 h2 j (by omega)
    have pr := isP_rng hs
    have e : adj n (s + (j + 1)) = jn (trn (rngL n s c)) (jn (adj n (s + j)) (rngL n s c)) := by
      rw [← rng_conj hs (by omega), ← jn_assocP (isP_trn pr) pr, trn_jn pr, id_jnP (isP_adj (by omega))] <;> rfl
    rw [e]
    exact Gen.jn hm (Gen.trn hm (Gen.move hm h2)) (Gen.jn hm ih (Gen.move hm h2))
section
variable {c d n : Nat}
theorem blk_P (h1 : 2 ≤ c) (h2 : c ≤ 4) (h3 : 2 ≤ d) (h4 : d ≤ 3) (h9 : 9 ≤ n) : ∀ m ∈ blkM c d n, IsP n m := fun m hm => by
  have hm : m ∈ [rngL n 0 2, rngL n 0 c, rngL n 4 2, rngL n 4 d, rngL n 7 2, rngL n 7 2] := hm
  simp only [List.mem_cons, List.not_mem_nil, or_false] at hm
  rcases hm with rfl | rfl | rfl | rfl | rfl | rfl <;> exact isP_rng (by omega)
theorem rng_W (h1 : 2 ≤ c) (h2 : c ≤ 4) (h3 : 2 ≤ d) (h4 : d ≤ 3) {s m : Nat} (hm : (s = 0 ∧ m ≤ c) ∨ (s = 4 ∧ m ≤ d) ∨ (s = 7 ∧ m ≤ 2)) : Wi c d n (rngL n s m) := fun k hk => by
  rw [rng_get hk]
  unfold rngF
  by_cases h : s ≤ k ∧ k < s + m
  · rw [if_pos h]
    rcases hm with ⟨rfl, hm⟩ | ⟨rfl, hm⟩ | ⟨rfl, hm⟩
    · have : ∀ x, x < c → lab c d x = 0 := fun x hx => if_pos hx
      rw [this k (by omega), this _ (by split <;> omega)]
    · have : ∀ x, 4 ≤ x → x < 4 + d → lab c d x = 4 := fun x hx hx2 => by unfold lab; rw [if_neg (by omega), if_pos ⟨hx, hx2⟩]
      rw [this k (by omega) (by omega), this _ (by split <;> omega) (by split <;> omega)]
    · have : ∀ x, 7 ≤ x → x < 9 → lab c d x = 7 := fun x hx hx2 => by unfold lab; rw [if_neg (by omega), if_neg (by omega), if_pos ⟨hx, hx2⟩]
      rw [this k (by omega) (by omega), this _ (by split <;> omega) (by split <;> omega)]
  · rw [if_neg h]
theorem blk_W (h1 : 2 ≤ c) (h2 : c ≤ 4) (h3 : 2 ≤ d) (h4 : d ≤ 3) : ∀ m ∈ blkM c d n, Wi c d n m := fun m hm => by
  have hm : m ∈ [rngL n 0 2, rngL n 0 c, rngL n 4 2, rngL n 4 d, rngL n 7 2, rngL n 7 2] := hm
  simp only [List.mem_cons, List.not_mem_nil, or_false] at hm
  rcases hm with rfl | rfl | rfl | rfl | rfl | rfl <;> exact rng_W h1 h2 h3 h4 (by omega)
theorem blk_adj (h1 : 2 ≤ c) (h2 : c ≤ 4) (h3 : 2 ≤ d) (h4 : d ≤ 3) (h9 : 9 ≤ n) {k : Nat} (hk : k + 1 < n) (e : lab c d k = lab c d (k + 1)) : Gen n (blkM c d n) (adj n k) := by
  have hm := blk_P h1 h2 h3 h4 h9
  have mem : ∀ x ∈ [rngL n 0 2, rngL n 0 c, rngL n 4 2, rngL n 4 d, rngL n 7 2, rngL n 7 2], x ∈ blkM c d n := fun x hx => hx
  have : (k + 1 < c) ∨ (4 ≤ k ∧ k + 1 < 4 + d) ∨ k = 7 := by
    unfold lab at e
    by_cases a1 : k < c <;> by_cases a2 : k + 1 < c <;> by_cases a3 : 4 ≤ k ∧ k < 4 + d <;> by_cases a4 : 4 ≤ k + 1 ∧ k + 1 < 4 + d <;> by_cases a5 : 7 ≤ k ∧ k < 9 <;> by_cases a6 : 7 ≤ k + 1 ∧ k + 1 < 9 <;> simp only [a1, a2, a3, a4, a5, a6, if_true, if_false, true_and, and_true] at e <;> omega
  rcases this with h | h | h
  · have := loc_gen hm (s := 0) (c := c) (by omega) (mem _ (by simp)) (mem _ (by simp)) k h
    rw [Nat.zero_add] at this
    exact this
  · have := loc_gen hm (s := 4) (c := d) (by omega) (mem _ (by simp)) (mem _ (by simp)) (k - 4) (by omega)
    rw [show 4 + (k - 4) = k by omega] at this
    exact this
  · have := loc_gen hm (s := 7) (c := 2) (by omega) (mem _ (by simp)) (mem _ (by simp)) 0 (by omega)
    rw [h]
    exact this
/-- just what sends each block to itself -/
theorem blk_gen (h1 : 2 ≤ c) (h2 : c ≤ 4) (h3 : 2 ≤ d) (h4 : d ≤ 3) (h9 : 9 ≤ n) {a : List Nat} (pa : IsP n a) : Gen n (blkM c d n) a ↔ Wi c d n a := by
  have hm := blk_P h1 h2 h3 h4 h9
  constructor
  · intro h
    clear pa
    induction h with
    | one => exact Wi.id c d n
    | mul h m ih => exact ih.jn (Gen.isP hm h) (blk_W h1 h2 h3 h4 _ m)
  · refine bub_ind (P := fun a => Wi c d n a → Gen n (blkM c d n) a) (fun _ => .one) (fun a k pa hk hlt ih hw => ?_) a pa
    have w1 := hw k (by omega)
    have w2 := hw (k + 1) hk
    rw [adj_jn (by omega), sw_l] at w1
    rw [adj_jn hk, sw_r] at w2
    have m1 := lab_mono h1 h2 h3 h4 (Nat.le_of_lt hlt)
    have m2 := lab_mono h1 h2 h3 h4 (show k ≤ k + 1 by omega)
    have e : lab c d k = lab c d (k + 1) := by omega
    have ga := blk_adj h1 h2 h3 h4 h9 hk e
    refine Gen.jn hm ga (ih ?_)
    have wa : Wi c d n (adj n k) := fun i hi => by
      rw [adj_get hi]
      unfold sw
      split
      · rename_i h; rw [h, e]
      · split
        · rename_i h; rw [h, e]
        · rfl
    have := Wi.jn (isP_adj hk) wa hw
    rw [adj_twice pa hk] at this
    exact this
/-! how many there are -/
def mixL (n c d : Nat) (x y z : List Nat) : List Nat := insL n 7 (insL n 4 (insL n 0 (List.range n) x c) y d) z 2
def mixAll (n c d : Nat) : List (List Nat) := (permsF c (List.range c)).flatMap fun x => (permsF d (List.range d)).flatMap fun y => (permsF 2 (List.range 2)).map fun z => mixL n c d x y z
theorem mix_get (h1 : 2 ≤ c) (h2 : c ≤ 4) (h3 : 2 ≤ d) (h4 : d ≤ 3) {x y z : List Nat} {k : Nat} (hk : k < n) : (mixL n c d x y z).getD k 0 = if k < c then x.getD k 0 else if 4 ≤ k ∧ k < 4 + d then 4 + y.getD (k - 4) 0 else if 7 ≤ k ∧ k < 9 then 7 + z.getD (k - 7) 0 else k := by
  unfold mixL
  rw [insL_get hk, insL_get hk, insL_get hk, range_getD hk]
  by_cases a1 : k < c
  · rw [if_neg (by omega), if_neg (by omega), if_pos (by omega), if_pos a1, Nat.zero_add, Nat.sub_zero]
  · by_cases a2 : 4 ≤ k ∧ k < 4 + d
    · rw [if_neg (by omega), if_pos a2, if_neg a1, if_pos a2]
    · by_cases a3 : 7 ≤ k ∧ k < 9
      · rw [if_pos (by omega), if_neg a1, if_neg a2, if_pos a3]
      · rw [if_neg (by omega), if_neg a2, if_neg (by omega), if_neg a1, if_neg a2, if_neg a3]
theorem mix_g1 (h1 : 2 ≤ c) (h2 : c ≤ 4) (h3 : 2 ≤ d) (h4 : d ≤ 3) (h9 : 9 ≤ n) {x y z : List Nat} {i : Nat} (hi : i < c) : (mixL n c d x y z).getD i 0 = x.getD i 0 := by rw [mix_get h1 h2 h3 h4 (by omega), if_pos hi]
theorem mix_g2 (h1 : 2 ≤ c) (h2 : c ≤ 4) (h3 : 2 ≤ d) (h4 : d ≤ 3) (h9 : 9 ≤ n) {x y z : List Nat} {i : Nat} (hi : i < d) : (mixL n c d x y z).getD (4 + i) 0 = 4 + y.getD i 0 := by rw [mix_get h1 h2 h3 h4 (by omega), if_neg (by omega), if_pos (by omega), Nat.add_sub_cancel_left]
theorem mix_g3 (h1 : 2 ≤ c) (h2 : c ≤ 4) (h3 : 2 ≤ d) (h4 : d ≤ 3) (h9 : 9 ≤ n) {x y z : List Nat} {i : Nat} (hi : i < 2) : (mixL n c d x y z).getD (7 + i) 0 = 7 + z.getD i 0 := by rw [mix_get h1 h2 h3 h4 (by omega), if_neg (by omega), if_neg (by omega), if_pos (by omega), Nat.add_sub_cancel_left]
theorem nd_map {α β : Type} {f : α → β} : ∀ {l : List α}, l.Nodup → (∀ x ∈ l, ∀ y ∈ l, f x = f y → x = y) → (l.map f).Nodup
  | [], _, _ => List.nodup_nil
  | x :: l, nd, h => by
    obtain ⟨n1, n2⟩ := List.nodup_cons.mp nd
    rw [List.map_cons]
    refine List.nodup_cons.mpr ⟨fun hm => ?_, nd_map n2 fun y hy z hz => h y (List.mem_cons_of_mem _ hy) z (List.mem_cons_of_mem _ hz)⟩
    obtain ⟨y, hy, e⟩ := List.mem_map.mp hm
    exact n1 (by rw [← h y (List.mem_cons_of_mem _ hy) x List.mem_cons_self e]; exact hy)
theorem flat_len {α β : Type} {f : α → List β} {b : Nat} : ∀ {l : List α}, (∀ x ∈ l, (f x).length = b) → (l.flatMap f).length = l.length * b
  | [], _ => by rw [List.length_nil, Nat.zero_mul] <;> rfl
  | x :: l, h => by rw [List.flatMap_cons, List.length_append, h x List.mem_cons_self, flat_len fun y hy => h y (List.mem_cons_of_mem _ hy), List.length_cons, Nat.add_mul, Nat.one_mul, Nat.add_comm]
theorem mixAll_len : (mixAll n c d).length = fct c * (fct d * 2) := by
  unfold mixAll
  rw [flat_len (b := fct d * 2) fun x _ => ?_, permsF_len c _ List.length_range]
  rw [flat_len (b := 2) fun y _ => by rw [List.length_map]; exact permsF_len 2 _ List.length_range, permsF_len d _ List.length_range]
theorem permsF_nd (f : Nat) : (permsF f (List.range f)).Nodup := (permsF_lex f _ List.length_range (range_lt f)).imp fun hlt e => by subst e; exact hlt.irrefl
theorem flat_nd {α β : Type} {f : α → List β} : ∀ {l : List α}, l.Nodup → (∀ x ∈ l, (f x).Nodup) → (∀ x ∈ l, ∀ y ∈ l, x ≠ y → ∀ b, b ∈ f x → b ∈ f y → False) → (l.flatMap f).Nodup
  | [], _, _, _ => List.nodup_nil
  | x :: l, nd, h, hd => by
    obtain ⟨n1, n2⟩ := List.nodup_cons.mp nd
    rw [List.flatMap_cons]
    refine List.nodup_append.mpr ⟨h x List.mem_cons_self, flat_nd n2 (fun y hy => h y (List.mem_cons_of_mem _ hy)) (fun y hy z hz => hd y (List.mem_cons_of_mem _ hy) z (List.mem_cons_of_mem _ hz)), fun a ha b hb e => ?_⟩
    obtain ⟨y, hy, hb⟩ := List.mem_flatMap.mp hb
    subst e
    exact hd x List.mem_cons_self y (List.mem_cons_of_mem _ hy) (fun e => n1 (by rw [e]; exact hy)) _ ha hb
theorem permsF_P {f : Nat} {x : List Nat} (h : x ∈ permsF f (List.range f)) : IsP f x := permsF_perm f _ x List.length_range h
theorem mix_inj (h1 : 2 ≤ c) (h2 : c ≤ 4) (h3 : 2 ≤ d) (h4 : d ≤ 3) (h9 : 9 ≤ n) {x y z x' y' z' : List Nat} (px : IsP c x) (py : IsP d y) (pz : IsP 2 z) (px' : IsP c x') (py' : IsP d y') (pz' : IsP 2 z') (e : mixL n c d x y z = mixL n c d x' y' z') : x = x' ∧ y = y' ∧ z = z' := by
  have g : ∀ k, k < n → (mixL n c d x y z).getD k 0 = (mixL n c d x' y' z').getD k 0 := fun k _ => by rw [e]
  refine ⟨ext_getD (by rw [px.len, px'.len]) fun i hi => ?_, ext_getD (by rw [py.len, py'.len]) fun i hi => ?_, ext_getD (by rw [pz.len, pz'.len]) fun i hi => ?_⟩
  · rw [px.len] at hi
    have := g i (by omega)
    rw [mix_g1 h1 h2 h3 h4 h9 hi, mix_g1 h1 h2 h3 h4 h9 hi] at this
    exact this
  · rw [py.len] at hi
    have := g (4 + i) (by omega)
    rw [mix_g2 h1 h2 h3 h4 h9 hi, mix_g2 h1 h2 h3 h4 h9 hi] at this
    omega
  · rw [pz.len] at hi
    have := g (7 + i) (by omega)
    rw [mix_g3 h1 h2 h3 h4 h9 hi, mix_g3 h1 h2 h3 h4 h9 hi] at this
    omega
theorem mixAll_nd (h1 : 2 ≤ c) (h2 : c ≤ 4) (h3 : 2 ≤ d) (h4 : d ≤ 3) (h9 : 9 ≤ n) : (mixAll n c d).Nodup := by
  unfold mixAll
  refine flat_nd (permsF_nd c) (fun x hx => flat_nd (permsF_nd d) (fun y hy => ?_) ?_) ?_
  · refine nd_map (permsF_nd 2) fun z hz z' hz' e => ?_
    exact (mix_inj h1 h2 h3 h4 h9 (permsF_P hx) (permsF_P hy) (permsF_P hz) (permsF_P hx) (permsF_P hy) (permsF_P hz') e).2.2
  · intro y hy y' hy' hne b hb hb'
    obtain ⟨z, hz, rfl⟩ := List.mem_map.mp hb
    obtain ⟨z', hz', e⟩ := List.mem_map.mp hb'
    exact hne (mix_inj h1 h2 h3 h4 h9 (permsF_P hx) (permsF_P hy) (permsF_P hz) (permsF_P hx) (permsF_P hy') (permsF_P hz') e.symm).2.1
  · intro x hx x' hx' hne b hb hb'
    obtain ⟨y, hy, hb⟩ := List.mem_flatMap.mp hb
    obtain ⟨z, hz, rfl⟩ := List.mem_map.mp hb
    obtain ⟨y', hy', hb'⟩ := List.mem_flatMap.mp hb'
    obtain ⟨z', hz', e⟩ := List.mem_map.mp hb'
    exact hne (mix_inj h1 h2 h3 h4 h9 (permsF_P hx) (permsF_P hy) (permsF_P hz) (permsF_P hx') (permsF_P hy') (permsF_P hz') e.symm).1
theorem lab_0 {i : Nat} (h : i < c) : lab c d i = 0 := if_pos h
theorem lab_4 (h2 : c ≤ 4) {i : Nat} (h : 4 ≤ i) (h' : i < 4 + d) : lab c d i = 4 := by unfold lab; rw [if_neg (by omega), if_pos ⟨h, h'⟩]
theorem lab_7 (h2 : c ≤ 4) (h4 : d ≤ 3) {i : Nat} (h : 7 ≤ i) (h' : i < 9) : lab c d i = 7 := by unfold lab; rw [if_neg (by omega), if_neg (by omega), if_pos ⟨h, h'⟩]
theorem lab_i {i : Nat} (h : ¬ i < c) (h' : ¬ (4 ≤ i ∧ i < 4 + d)) (h'' : ¬ (7 ≤ i ∧ i < 9)) : lab c d i = i := by unfold lab; rw [if_neg h, if_neg h', if_neg h'']
/-- which seats have a label -/
theorem of_lab (h1 : 2 ≤ c) (h2 : c ≤ 4) (h3 : 2 ≤ d) (h4 : d ≤ 3) {v k : Nat} (e : lab c d v = lab c d k) : (k < c → v < c) ∧ (4 ≤ k ∧ k < 4 + d → 4 ≤ v ∧ v < 4 + d) ∧ (7 ≤ k ∧ k < 9 → 7 ≤ v ∧ v < 9) ∧ (¬ k < c → ¬ (4 ≤ k ∧ k < 4 + d) → ¬ (7 ≤ k ∧ k < 9) → v = k) := by
  by_cases b1 : k < c
  · rw [lab_0 b1] at e
    by_cases a1 : v < c
    · exact ⟨fun _ => a1, fun h => by omega, fun h => by omega, fun h => absurd b1 h⟩
    · by_cases a2 : 4 ≤ v ∧ v < 4 + d
      · rw [lab_4 h2 a2.1 a2.2] at e; omega
      · by_cases a3 : 7 ≤ v ∧ v < 9
        · rw [lab_7 h2 h4 a3.1 a3.2] at e; omega
        · rw [lab_i a1 a2 a3] at e; omega
  · by_cases b2 : 4 ≤ k ∧ k < 4 + d
    · rw [lab_4 h2 b2.1 b2.2] at e
      by_cases a1 : v < c
      · rw [lab_0 a1] at e; omega
      · by_cases a2 : 4 ≤ v ∧ v < 4 + d
        · exact ⟨fun h => absurd h b1, fun _ => a2, fun h => by omega, fun _ h => absurd b2 h⟩
        · by_cases a3 : 7 ≤ v ∧ v < 9
          · rw [lab_7 h2 h4 a3.1 a3.2] at e; omega
          · rw [lab_i a1 a2 a3] at e; omega
    · by_cases b3 : 7 ≤ k ∧ k < 9
      · rw [lab_7 h2 h4 b3.1 b3.2] at e
        by_cases a1 : v < c
        · rw [lab_0 a1] at e; omega
        · by_cases a2 : 4 ≤ v ∧ v < 4 + d
          · rw [lab_4 h2 a2.1 a2.2] at e; omega
          · by_cases a3 : 7 ≤ v ∧ v < 9
            · exact ⟨fun h => absurd h b1, fun h => absurd h b2, fun _ => a3, fun _ _ h => absurd b3 h⟩
            · rw [lab_i a1 a2 a3] at e; omega
      · rw [lab_i b1 b2 b3] at e
        by_cases a1 : v < c
        · rw [lab_0 a1] at e; omega
        · by_cases a2 : 4 ≤ v ∧ v < 4 + d
          · rw [lab_4 h2 a2.1 a2.2] at e; omega
          · by_cases a3 : 7 ≤ v ∧ v < 9
            · rw [lab_7 h2 h4 a3.1 a3.2] at e; omega
            · rw [lab_i a1 a2 a3] at e
              exact ⟨fun h => absurd h b1, fun h => absurd h b2, fun h => absurd h b3, fun _ _ _ => e⟩
theorem mix_P (h1 : 2 ≤ c) (h2 : c ≤ 4) (h3 : 2 ≤ d) (h4 : d ≤ 3) (h9 : 9 ≤ n) {x y z : List Nat} (px : IsP c x) (py : IsP d y) (pz : IsP 2 z) : IsP n (mixL n c d x y z) := by
  have p1 := insL_P (isP_id n) px (s := 0) (by omega) fun k _ hk => range_getD (by omega)
  have p2 := insL_P p1 py (s := 4) (by omega) fun k hk hk' => by rw [insL_get (by omega), if_neg (by omega), range_getD (by omega)]
  exact insL_P p2 pz (s := 7) (by omega) fun k hk hk' => by rw [insL_get (by omega), if_neg (by omega), insL_get (by omega), if_neg (by omega), range_getD (by omega)]
theorem mix_W (h1 : 2 ≤ c) (h2 : c ≤ 4) (h3 : 2 ≤ d) (h4 : d ≤ 3) {x y z : List Nat} (px : IsP c x) (py : IsP d y) (pz : IsP 2 z) : Wi c d n (mixL n c d x y z) := fun k hk => by
  rw [mix_get h1 h2 h3 h4 hk]
  by_cases a1 : k < c
  · rw [if_pos a1, lab_0 a1, lab_0 (px.getD_lt a1)]
  · by_cases a2 : 4 ≤ k ∧ k < 4 + d
    · have := py.getD_lt (i := k - 4) (by omega)
      rw [if_neg a1, if_pos a2, lab_4 h2 a2.1 a2.2, lab_4 h2 (by omega) (by omega)]
    · by_cases a3 : 7 ≤ k ∧ k < 9
      · have := pz.getD_lt (i := k - 7) (by omega)
        rw [if_neg a1, if_neg a2, if_pos a3, lab_7 h2 h4 a3.1 a3.2, lab_7 h2 h4 (by omega) (by omega)]
      · rw [if_neg a1, if_neg a2, if_neg a3]
theorem mixAll_mem (h1 : 2 ≤ c) (h2 : c ≤ 4) (h3 : 2 ≤ d) (h4 : d ≤ 3) (h9 : 9 ≤ n) (a : List Nat) : a ∈ mixAll n c d ↔ IsP n a ∧ Wi c d n a := by
  unfold mixAll
  constructor
  · intro h
    obtain ⟨x, hx, h⟩ := List.mem_flatMap.mp h
    obtain ⟨y, hy, h⟩ := List.mem_flatMap.mp h
    obtain ⟨z, hz, rfl⟩ := List.mem_map.mp h
    exact ⟨mix_P h1 h2 h3 h4 h9 (permsF_P hx) (permsF_P hy) (permsF_P hz), mix_W h1 h2 h3 h4 (permsF_P hx) (permsF_P hy) (permsF_P hz)⟩
  · intro ⟨pa, w⟩
    have inj : ∀ {i j : Nat}, i < n → j < n → a.getD i 0 = a.getD j 0 → i = j := fun hi hj e => nd_getD pa.nd (by rw [pa.len]; exact hi) (by rw [pa.len]; exact hj) e
    have px : IsP c ((List.range c).map fun k => a.getD k 0) := isP_mr (fun i hi => (of_lab h1 h2 h3 h4 (w i (by omega))).1 hi) fun i j hi hj e => inj (by omega) (by omega) e
    have b4 : ∀ i, i < d → 4 ≤ a.getD (4 + i) 0 ∧ a.getD (4 + i) 0 < 4 + d := fun i hi => (of_lab h1 h2 h3 h4 (w (4 + i) (by omega))).2.1 ⟨by omega, by omega⟩
    have b7 : ∀ i, i < 2 → 7 ≤ a.getD (7 + i) 0 ∧ a.getD (7 + i) 0 < 9 := fun i hi => (of_lab h1 h2 h3 h4 (w (7 + i) (by omega))).2.2.1 ⟨by omega, by omega⟩
    have py : IsP d ((List.range d).map fun k => a.getD (4 + k) 0 - 4) := isP_mr (fun i hi => by have := b4 i hi; omega) fun i j hi hj e => by
      have := b4 i hi
      have := b4 j hj
      have e : a.getD (4 + i) 0 - 4 = a.getD (4 + j) 0 - 4 := e
      have := inj (i := 4 + i) (j := 4 + j) (by omega) (by omega) (by omega)
      omega
    have pz : IsP 2 ((List.range 2).map fun k => a.getD (7 + k) 0 - 7) := isP_mr (fun i hi => by have := b7 i hi; omega) fun i j hi hj e => by
      have := b7 i hi
      have := b7 j hj
      have e : a.getD (7 + i) 0 - 7 = a.getD (7 + j) 0 - 7 := e
      have := inj (i := 7 + i) (j := 7 + j) (by omega) (by omega) (by omega)
      omega
    refine List.mem_flatMap.mpr ⟨_, permsF_mem c _ _ px.len px, List.mem_flatMap.mpr ⟨_, permsF_mem d _ _ py.len py, List.mem_map.mpr ⟨_, permsF_mem 2 _ _ pz.len pz, ?_⟩⟩⟩
    refine ext_getD (by unfold mixL; rw [insL_len, pa.len]) fun k hk => ?_
    have hk : k < n := by unfold mixL at hk; rw [insL_len] at hk; exact hk
    rw [mix_get h1 h2 h3 h4 hk]
    by_cases a1 : k < c
    · rw [if_pos a1, mr_get a1]
    · by_cases a2 : 4 ≤ k ∧ k < 4 + d
      · have := b4 (k - 4) (by omega)
        rw [show 4 + (k - 4) = k by omega] at this
        rw [if_neg a1, if_pos a2, mr_get (by omega), show 4 + (k - 4) = k by omega]
        omega
      · by_cases a3 : 7 ≤ k ∧ k < 9
        · have := b7 (k - 7) (by omega)
          rw [show 7 + (k - 7) = k by omega] at this
          rw [if_neg a1, if_neg a2, if_pos a3, mr_get (by omega), show 7 + (k - 7) = k by omega]
          omega
        · rw [if_neg a1, if_neg a2, if_neg a3]
          exact ((of_lab h1 h2 h3 h4 (w k hk)).2.2.2 a1 a2 a3).symm
theorem nam_inj {o x y : List Nat} (po : IsP n o) (px : IsP n x) (py : IsP n y) (e : nam o x = nam o y) : x = y := by
  rw [← nam_back po px, e, nam_back po py]
theorem many_blk (h1 : 2 ≤ c) (h2 : c ≤ 4) (h3 : 2 ≤ d) (h4 : d ≤ 3) (h9 : 9 ≤ n) {B : Bk} {o : List Nat} (en : B.n = n) (po : IsP n o) (C : Closed B ((blkM c d n).map (nam o))) (hm : ∀ m ∈ (blkM c d n).map (nam o), IsP B.n m) : manyB B = fct c * (fct d * 2) := by
  subst en
  rw [← mixAll_len (n := B.n) (c := c) (d := d), ← List.length_map (nam o)]
  refine many_gen C hm (nd_map (mixAll_nd h1 h2 h3 h4 h9) fun x hx y hy e => ?_) fun a => ?_
  · exact nam_inj po ((mixAll_mem h1 h2 h3 h4 h9 x).mp hx).1 ((mixAll_mem h1 h2 h3 h4 h9 y).mp hy).1 e
  · rw [List.mem_map]
    constructor
    · intro ⟨x, hx, e⟩
      obtain ⟨px, wx⟩ := (mixAll_mem h1 h2 h3 h4 h9 x).mp hx
      rw [← e]
      exact gen_nam po (blk_P h1 h2 h3 h4 h9) ((blk_gen h1 h2 h3 h4 h9 px).mpr wx)
    · intro ga
      have pa := Gen.isP hm ga
      have px := isP_nam (isP_trn po) pa
      rw [← nam_back' po pa, gen_nam_iff po (blk_P h1 h2 h3 h4 h9) px, blk_gen h1 h2 h3 h4 h9 px] at ga
      exact ⟨_, (mixAll_mem h1 h2 h3 h4 h9 _).mpr ⟨px, ga⟩, nam_back' po pa⟩
end
end Shf

/-! law k18: the great room -/
namespace Shf
open PySem L2
/-- the swap of the first two as it is put in -/
theorem swap_arg {K : PySem.W.Frag} {H : Hp} {Q : VK} {σ : L2.St} {n j : Nat} (hσ : σ[j]? = some (some (.int (n : Int)))) (h2 : 2 ≤ n) (hn : n ≤ 1000) (k : ∀ p H', Same H H' → H' p = some (.tup (vN (adj n 0))) → Q (.ref p) H') :
    (tCB (rTupOf K) (tCons (tOp rCat (tLst (tCons (tC (.int 1)) (tCons (tC (.int 0)) tNil))) (tLstRg (tRg2 (tC (.int 2)) (tVar j)))) tNil)) σ H Q := by
  walk_at "rd"
  refine ⟨zl (by show 2 ≤ 100000; decide), fun p1 hp1 => ?_⟩
  walk_at "rd"
  refine w_rgB ?_
  refine w_c ?_
  refine w_var hσ ?_
  refine ⟨((2 : Nat) : Int), (n : Int), rfl, rfl, .of_le (by omega) (by omega) (by omega) (by omega), fun p2 hp2 => ?_⟩
  rw [rgV_N2]
  refine cat_N (a := [1, 0]) (by rw [upd_ne (ne_of_none upd_same hp2)]; exact upd_same) upd_same (by rw [mr_len]; show 2 + (n - 2) ≤ 100000; omega) fun p3 hp3 => ?_
  rw [adj0_eq h2]
  walk_at "rd"
  refine tup_L (sqL upd_same) fun p4 hp4 => ?_
  exact k p4 _ (((((Same.refl H).new hp1).new hp2).new hp3).new hp4) upd_same
/-- the ring of all as it is put in -/
theorem ring_arg {K : PySem.W.Frag} {H : Hp} {Q : VK} {σ : L2.St} {n j : Nat} (hσ : σ[j]? = some (some (.int (n : Int)))) (h2 : 1 ≤ n) (hn : n ≤ 1000) (k : ∀ p H', Same H H' → H' p = some (.tup (vN (cyc n))) → Q (.ref p) H') :
    (tCB (rTupOf K) (tCons (tOp rCat (tLstRg (tRg2 (tC (.int 1)) (tVar j))) (tLst (tCons (tC (.int 0)) tNil))) tNil)) σ H Q := by
  walk_at "rd"
  refine w_rgB ?_
  refine w_c ?_
  refine w_var hσ ?_
  refine ⟨((1 : Nat) : Int), (n : Int), rfl, rfl, .of_le (by omega) (by omega) (by omega) (by omega), fun p2 hp2 => ?_⟩
  rw [rgV_N2]
  walk_at "rd"
  refine ⟨zl (by show 1 ≤ 100000; decide), fun p1 hp1 => ?_⟩
  refine cat_N (b := [0]) (by rw [upd_ne (ne_of_none upd_same hp1)]; exact upd_same) upd_same (by rw [mr_len]; show n - 1 + 1 ≤ 100000; omega) fun p3 hp3 => ?_
  rw [cyc_eq h2]
  walk_at "rd"
  refine tup_L (sqL upd_same) fun p4 hp4 => ?_
  exact k p4 _ (((((Same.refl H).new hp2).new hp1).new hp3).new hp4) upd_same
theorem swcyc_gen {n : Nat} (hn : 2 ≤ n) : ∀ a, IsP n a → Gen n ([] ++ [adj n 0] ++ [cyc n]) a := gen_swcyc (fun m hm => by
  have hm : m ∈ [adj n 0, cyc n] := hm
  rcases List.mem_cons.mp hm with rfl | hm
  · exact isP_adj (by omega)
  · rw [List.mem_singleton.mp hm]; exact isP_cyc) (by simp) (by simp)
end Shf

/-! dyed -/
namespace Shf
open PySem L2
theorem w_forz {σ : L2.St} {H : Hp} {D : Ends} {i : Nat} {c : Int} {t : TS} (h1 : -1000000 ≤ c) (h2 : c ≤ 1000000) (Pv : Nat → L2.St → Hp → Prop) (h0 : Pv 0 σ H)
    (hs : ∀ k σ H, k < c.toNat → Pv k σ H → t { D with nx := Pv (k + 1), ct := Pv (k + 1), bk := D.nx } (σ.set i (some (.int (k : Int)))) H) (hd : ∀ σ H, Pv c.toNat σ H → D.nx σ H) :
    ∃ j : Int, [V.int c] = [.int j] ∧ -(2 ^ 62) ≤ j ∧ j < 2 ^ 62 ∧ ∃ W : Nat → Nat → L2.St → Hp → Prop, (∃ m, W 0 m σ H) ∧ ∀ i' m σ H, W i' m σ H →
      ((Itr 0 j.toNat).stop i' H ∧ D.nx σ H) ∨ ((Itr 0 j.toNat).go i' H ∧ ∃ N : L2.St → Hp → Prop, (∀ σ' H', N σ' H' → ∃ m', m' < m ∧ W (i' + 1) m' σ' H') ∧ ∀ x H', (Itr 0 j.toNat).yld i' H x H' → gName i x σ H' fun σ2 H2 => t { D with nx := N, ct := N, bk := D.nx } σ2 H2) := by
  refine ⟨c, rfl, by omega, by omega, ?_⟩
  refine for_range (n := c.toNat) Pv h0 (fun k σ H hk p => ?_) hd
  have := hs k σ H hk p
  rw [← Int.zero_add (k : Int)] at this
  exact this
def sp_many_times (K : PySem.W.Frag) (g : Gd) : Sp := fun vs H Q _ => ∃ z c : Int, vs = [.int z, .int c] ∧ 1 ≤ z ∧ z ≤ 6 ∧ -1000000 ≤ c ∧ c ≤ 1000000 ∧ Q (.int (z ^ c.toNat)) H
theorem len_many_times (K : PySem.W.Frag) (g : Gd) (vs : List V) (H : Hp) (Q : VK) (E : XK) (h : sp_many_times K g vs H Q E) : vs.length = 2 := by obtain ⟨_, _, rfl, _⟩ := h; rfl
abbrev N_many_times : List Str := ["dyes", "count", "whole", "turn"]
/-- many_times -/
def t_many_times (K : PySem.W.Frag) (g : Gd) (E : XK) : TS :=
  (tSeq (tAsg (tC (.int 1)) (gName 2))
    (tSeq (tFor (iRng1 (tCons (tVar 1) tNil)) (gName 3) (tAsg (tOp rMulI (tVar 2) (tVar 0)) (gName 2)))
    (tRet (tVar 2))))
theorem pure_many_times {K : PySem.W.Frag} {g : Gd} (vs : List V) (H : Hp) (Q : VK) (E : XK) (h : sp_many_times K g vs H Q E) : Rd1 (t_many_times K g E) N_many_times vs H Q := by
  obtain ⟨z, c, rfl, h1, h2, h3, h4, k⟩ := h
  unfold t_many_times
  walk_at "rd"
  refine w_forz h3 h4 (fun i σ H' => (∃ v, σ = [some (.int z), some (.int c), some (.int (z ^ i)), v]) ∧ H' = H) ⟨⟨_, by rw [Int.pow_zero]; rfl⟩, rfl⟩ ?_ ?_
  · rintro i σ H' hi ⟨⟨v0, rfl⟩, rfl⟩
    walk_at "rd"
    refine mul_I (.inr ⟨by omega, by omega⟩) ?_
    walk_at "rd"
    refine ⟨⟨some (.int (i : Int)), ?_⟩, rfl⟩
    rw [Int.pow_succ] <;> rfl
  · rintro σ H' ⟨⟨v0, rfl⟩, rfl⟩
    walk_at "rd"
    exact k
/-- the dyeings that a seating leaves as they are -/
def dyeT (n : Nat) (z : Int) (a : List Nat) : Int := z ^ ((n : Int) - oddN (ringsN a)).toNat
def dyeS (n : Nat) (z : Int) (as : List (List Nat)) : Int := as.foldl (fun t a => t + dyeT n z a) 0
theorem dyeS_snoc (n : Nat) (z : Int) (as : List (List Nat)) (a : List Nat) : dyeS n z (as ++ [a]) = dyeS n z as + dyeT n z a := by
  unfold dyeS
  rw [List.foldl_append] <;> rfl
theorem oddN_bd (as : List (List Nat)) (m : Nat) (h : ∀ r ∈ as, r.length ≤ m) : -(as.length : Int) ≤ oddN as ∧ oddN as ≤ (as.length * m : Nat) := by
  have key : ∀ (as : List (List Nat)) (t : Int), (∀ r ∈ as, r.length ≤ m) → t - (as.length : Int) ≤ as.foldl (fun t r => t + (r.length : Int) - 1) t ∧ as.foldl (fun t r => t + (r.length : Int) - 1) t ≤ t + (as.length * m : Nat) := by
    intro as
    induction as with
    | nil => intro t _; exact ⟨by simp, by simp⟩
    | cons r l ih =>
      intro t h
      have i1 := ih (t + (r.length : Int) - 1) fun q hq => h q (List.mem_cons_of_mem _ hq)
      have i2 := h r List.mem_cons_self
      rw [List.foldl_cons, List.length_cons, Nat.add_mul, Nat.one_mul]
      omega
  have := key as 0 h
  unfold oddN
  omega
def sp_dyed (K : PySem.W.Frag) (g : Gd) : Sp := fun vs H Q E => ∃ (R : RA) (B : Bk) (moves : List (List Nat)) (z : Int), vs = [.ref R.r, .int z] ∧ RoomAt g H R B moves ∧ (¬ (1 ≤ z ∧ z ≤ 6) → E (.ref g.NoNumber) none H) ∧
  (1 ≤ z → z ≤ 6 → 2000 < manyB B → E (.ref g.TooWide) none H) ∧ (1 ≤ z → z ≤ 6 → manyB B ≤ 2000 → ∀ H', Same H H' → Q (.int (dyeS B.n z (enumB B) / (manyB B : Int))) H')
theorem len_dyed (K : PySem.W.Frag) (g : Gd) (vs : List V) (H : Hp) (Q : VK) (E : XK) (h : sp_dyed K g vs H Q E) : vs.length = 2 := by obtain ⟨_, _, _, _, rfl, _⟩ := h; rfl
--@facts dyed r_Room r_Book
abbrev N_dyed : List Str := ["room", "dyes", "many", "total", "n", "free", "ring"]
/-- dyed -/
def t_dyed (K : PySem.W.Frag) (g : Gd) (E : XK) : TS :=
  (tSeq (tIfS (tOr (tTest (tOp rLtI (tVar 1) (tC (.int 1)))) (tTest (tOp rGtI (tVar 1) (tC (.int 6))))) (tRaiseW (wE E) g.NoNumber) tNext)
    (tSeq (tAsg (tMethS g.Room "how_many" (sp_Room_how_many K g) (fun _ => E0) (tVar 0) tNil) (gName 2))
    (tSeq (tIfS (tTest (tOp rGtI (tVar 2) (tC (.int 2000)))) (tRaiseW (wE E) g.TooWide) tNext)
    (tSeq (tAsg (tC (.int 0)) (gName 3))
    (tSeq (tFor (iRng1 (tCons (tVar 2) tNil)) (gName 4) (tSeq (tAsg (tFld K (tVar 0) "size") (gName 5))
    (tSeq (tFor (iList K (tCallS (sp_rings K g) (WE (wE E)) (tCons (tMethS g.Room "numbered" (sp_Room_numbered K g) (WE (wE E)) (tVar 0) (tCons (tVar 4) tNil)) tNil))) (gName 6) (tAsg (tOp rAddI (tOp rSubI (tVar 5) (tCB (rLenQ K) (tCons (tVar 6) tNil))) (tC (.int 1))) (gName 5)))
    (tAsg (tOp rAddI (tVar 3) (tCallS (sp_many_times K g) (fun _ => E0) (tCons (tVar 1) (tCons (tVar 5) tNil)))) (gName 3)))))
    (tRet (tOp rDivI (tVar 3) (tVar 2))))))))
theorem pure_dyed {K : PySem.W.Frag} {g : Gd} (cR : RmC K g) (cB : BkC K g) (vs : List V) (H : Hp) (Q : VK) (E : XK) (h : sp_dyed K g vs H Q E) : Rd1 (t_dyed K g E) N_dyed vs H Q := by
  obtain ⟨R, B, moves, z, rfl, hR, e1, e2, k⟩ := h
  have ok := hR.cl.ok
  have n1 := hR.n1
  have n16 := hR.n16
  unfold t_dyed
  walk_at "sq"
  walk_at "st"
  refine w_orP (b := decide (z < 1)) (c := decide (6 < z)) (fun R' r => ?_) (fun R' r => ?_) ?_
  · walk_at "ex"
    exact r
  · walk_at "ex"
    exact r
  refine if_b (fun c => ?_) (fun c => ?_)
  · refine e1 fun zz => ?_
    rw [decide_eq_false (by omega), decide_eq_false (by omega)] at c
    cases c
  have z1 : 1 ≤ z := by
    refine Decidable.byContradiction fun q => ?_
    rw [decide_eq_true (by omega)] at c
    cases c
  have z6 : z ≤ 6 := by
    refine Decidable.byContradiction fun q => ?_
    rw [decide_eq_true (p := 6 < z) (by omega), Bool.or_true] at c
    cases c
  have e2 := e2 z1 z6
  have k := k z1 z6
  walk_at "rd"
  refine hR.inst (by rfl) ?_
  walk_at "rd"
  refine ⟨R, B, moves, rfl, hR, ?_⟩
  walk_at "rd"
  refine if_d (fun c => e2 (by omega)) (fun c => ?_)
  have hm : manyB B ≤ 2000 := by omega
  walk_at "rd"
  refine w_for1 (by omega) (fun i σ H' => (∃ y1 y2 y3, σ = [some (.ref R.r), some (.int z), some (.int (manyB B : Int)), some (.int (dyeS B.n z ((enumB B).take i))), y1, y2, y3]) ∧ Same H H') ⟨⟨_, _, _, rfl⟩, Same.refl H⟩ ?_ ?_
  · rintro i σ H1 hi ⟨⟨y1, y2, y3, rfl⟩, s1⟩
    have hR1 := hR.same s1
    obtain ⟨a, ea, pa, _⟩ := enum_at ok hi
    walk_at "rd"
    refine hR1.f_size cR ?_
    walk_at "rd"
    refine hR1.inst (by rfl) ?_
    walk_at "rd"
    refine numbered_ok hR1 ea fun q H2 s2 hq0 hq => ?_
    walk_at "rd"
    refine ⟨q, _, rfl, sqT (by rw [← vN_eq]; exact hq), by rw [List.length_map, pa.len]; omega, fun c => (by rw [seatB_N pa n1 n16] at c; cases c), fun n' a' ea' pa' n1' n16' r H3 ws s3 hr0 hr hLT => ?_⟩
    obtain rfl := vInj.mp ea'
    have en : n' = B.n := by rw [← pa'.len, pa.len]
    walk_at "rd"
    refine ⟨r, rfl, ⟨_, sqL hr⟩, for_list (K := K) (a := r) (xs := ws) (fun j σ H' => (∃ v, σ = [some (.ref R.r), some (.int z), some (.int (manyB B : Int)), some (.int (dyeS B.n z ((enumB B).take i))), some (.int (i : Int)), some (.int ((B.n : Int) - oddN ((ringsN a).take j))), v]) ∧ H' = H3) ⟨⟨_, by show _ = [_, _, _, _, _, some (V.int ((B.n : Int) - 0)), _]; rw [Int.sub_zero]; rfl⟩, rfl⟩ (fun j σ H' _ z => by rw [z.2]; exact sqL hr) ?_ ?_⟩
    · rintro j v σ H' hj ⟨⟨v0, rfl⟩, rfl⟩
      obtain ⟨q2, x, rfl, hx, hq2⟩ := hLT.get' hj
      refine (?_ : (tAsg _ _) _ _ _)
      walk_at "rd"
      refine len_TN (sqT hq2) ?_
      walk_at "rd"
      refine ⟨⟨some (.ref q2), ?_⟩, rfl⟩
      rw [take_more hx, oddN_snoc, show (B.n : Int) - (oddN ((ringsN a).take j) + (x.length : Int) - 1) = (B.n : Int) - oddN ((ringsN a).take j) - (x.length : Int) + 1 by omega] <;> rfl
    · rintro σ H' ⟨⟨v0, rfl⟩, rfl⟩
      rw [hLT.len, List.take_length]
      walk_at "rd"
      have b := oddN_bd (ringsN a) B.n fun x hx => by
        obtain ⟨m, hm, rfl⟩ := List.mem_map.mp hx
        have hm := (List.mem_filter.mp hm).1
        rw [List.mem_range, pa.len] at hm
        rw [ring_len]
        exact (per_spec pa hm).2.2.2
      have bl : (ringsN a).length ≤ B.n := by
        have := ringsK_len a a.length
        rw [pa.len] at this
        unfold ringsN
        rw [pa.len]
        exact this
      have bm : (ringsN a).length * B.n ≤ 16 * 16 := Nat.mul_le_mul (by omega) n16
      refine ⟨z, _, rfl, z1, z6, ?_, ?_, ?_⟩
      · omega
      · omega
      · walk_at "rd"
        refine ⟨⟨some (.int (i : Int)), some (.int ((B.n : Int) - oddN (ringsN a))), v0, ?_⟩, (s1.trans s2).trans s3⟩
        rw [take_more ea, dyeS_snoc] <;> rfl
  · rintro σ H1 ⟨⟨y1, y2, y3, rfl⟩, s1⟩
    rw [← enumB_len ok, List.take_length]
    walk_at "rd"
    have hm0 : 0 < manyB B := by rw [many_eq ok.rl]; exact belowK_pos ok.pre _ _ (by omega)
    rw [enumB_len ok]
    refine div_I (by omega) (by omega) ?_
    walk_at "rd"
    exact k hm _ s1
end Shf

/-! k21: each refusal -/
namespace Shf
open PySem L2
theorem gen_nil {n : Nat} {a : List Nat} (h : Gen n [] a) : a = List.range n := by
  induction h with
  | one => rfl
  | mul _ hm _ => cases hm
end Shf

/-! k21: its end -/
namespace Shf
open PySem L2
theorem many_all {B : Bk} {moves : List (List Nat)} (C : Closed B moves) (hm : ∀ m ∈ moves, IsP B.n m) (h : ∀ a, IsP B.n a → Gen B.n moves a) : manyB B = fct B.n := by
  rw [← permsF_len B.n (List.range B.n) List.length_range]
  refine many_gen C hm ((permsF_lex _ _ List.length_range (range_lt _)).imp fun h e => ?_) fun a => ⟨fun ha => h a (permsF_perm _ _ a List.length_range ha), fun g => permsF_mem _ _ a (Gen.isP hm g).len (Gen.isP hm g)⟩
  rw [e] at h
  exact LexLt.irrefl h
theorem many_none {n : Nat} (C : Closed (Bk.new n) []) : manyB (Bk.new n) = 1 := by
  refine many_gen C (fun m hm => by cases hm) (l := [List.range n]) (by simp) fun a => ?_
  rw [List.mem_singleton]
  exact ⟨fun e => by rw [e]; exact .one, fun h => gen_nil h⟩
end Shf

/-! k19: the least of a list of lists -/
namespace Shf
open PySem L2
theorem arg_min {α : Type} {lt : α → α → Prop} (tr : ∀ {a b c}, lt a b → lt b c → lt a c) (ir : ∀ a, ¬ lt a a) (bt : Nat → Nat → Bool) (f : Nat → α) : ∀ k : Nat, (∀ i j, i ≤ k → j ≤ k → (bt i j = true ↔ lt (f i) (f j))) → argBest bt k ≤ k ∧ ∀ j, j ≤ k → ¬ lt (f j) (f (argBest bt k))
  | 0, _ => ⟨Nat.le_refl _, fun j hj z => by
    obtain rfl : j = 0 := by omega
    exact ir _ z⟩
  | k + 1, h => by
    obtain ⟨i1, i2⟩ := arg_min (lt := lt) tr ir bt f k fun i j hi hj => h i j (by omega) (by omega)
    have hb := h (k + 1) (argBest bt k) (Nat.le_refl _) (by omega)
    cases c : bt (k + 1) (argBest bt k) with
    | true =>
      have e : argBest bt (k + 1) = k + 1 := by simp only [argBest, c, if_true]
      rw [e]
      have l := hb.mp c
      refine ⟨Nat.le_refl _, fun j hj z => ?_⟩
      by_cases cj : j = k + 1
      · rw [cj] at z; exact ir _ z
      · exact i2 j (by omega) (tr z l)
    | false =>
      have e : argBest bt (k + 1) = argBest bt k := by simp only [argBest, c, Bool.false_eq_true, if_false]
      rw [e]
      refine ⟨by omega, fun j hj z => ?_⟩
      by_cases cj : j = k + 1
      · rw [cj] at z
        rw [hb.mpr z] at c
        cases c
      · exact i2 j (by omega) z
def rMinLL (K : PySem.W.Frag) : List V → Hp → VK → Prop := fun vs H Q => ∃ (a : Addr) (ps : List V) (rows : List (List Int)), vs = [.ref a] ∧ SqL K H a ps ∧ DpAll K H ps (rows.map dL) ∧ rows ≠ [] ∧
  ∀ (i : Nat) (v : V) (r : List Int), ps[i]? = some v → rows[i]? = some r → (∀ y ∈ rows, ¬ y < r) → Q v H
theorem alike_ints : ∀ a b : List Int, PySem.W.alikeAll (a.map PyData.int) (b.map PyData.int) = true
  | [], _ => by cases ‹List Int› <;> rfl
  | x :: a, [] => by rfl
  | x :: a, y :: b => by
    show PySem.W.alikeAll (PyData.int x :: a.map PyData.int) (PyData.int y :: b.map PyData.int) = true
    unfold PySem.W.alikeAll
    rw [alike_ints a b, Bool.and_true]
    simp [PySem.W.alike]
theorem dep_rows (rows : List (List Int)) : PyData.depthAll (rows.map dL) ≤ 2 := by
  refine Nat.le_trans (depthAll_map (f := dL) (n := 1) (fun a => ?_) rows) (by omega)
  exact dep_L a
theorem call_minLL {X : Cx} (hc : X.calm = true) (hu : X.A.units + 65 < cLine) : CallR X (.builtin "min") (rMinLL X.K) := by
  intro pins s σ H vs us Q I r h
  obtain ⟨a, ps, rows, rfl, hs, hd, hne, q⟩ := h
  obtain ⟨its, rv, hl, _⟩ := I.list hs
  rw [Vals.ref1 r]
  obtain ⟨as, ra⟩ := Dp.readsAll I _ _ _ hd rv
  have hlen : its.toArray.size = its.length := List.size_toArray ..
  have hpl : ps.length = its.length := rv.length
  have hn : its.toArray.size = rows.length := by
    have := PySem.W.readsAll_len (vs := its.toArray) ra
    rw [List.length_map] at this
    exact this
  have h0 : 0 < rows.length := List.length_pos_iff.mpr hne
  refine call_min_walkH (PySem.W.iter_listW (A := X.A.in1) (I.ok.hd hc) hl.isList fun s2 e W st hfp hw hk => ?_)
  refine ⟨_, _, _, _, _, _, _, s.heap, _, rfl, W, st, hfp, by omega, hw, hk, PySem.W.cmpIn_lt (A := X.A.in1) ra ⟨fun x hx y hy => ?_, fun x hx => ?_⟩ ?_, fun v s' hP m => ?_⟩
  · obtain ⟨x, _, rfl⟩ := List.mem_map.mp hx
    obtain ⟨y, _, rfl⟩ := List.mem_map.mp hy
    show PySem.W.alike (PyData.list _) (PyData.list _) = true
    unfold PySem.W.alike
    exact alike_ints x y
  · obtain ⟨x, _, rfl⟩ := List.mem_map.mp hx
    intro z
    cases z
  · have := dep_rows rows
    show X.A.units + 1 + _ < _
    omega
  · obtain ⟨h', tk, rfl, hk'⟩ := PySem.W.moved_old e rfl m
    obtain ⟨b1, b2⟩ := arg_min (lt := fun a b : List Int => a < b) (fun x y => List.lt_trans x y) (fun a => List.lt_irrefl a) (fun i j => PySem.W.dataLt ((rows.map dL).getD i .none) ((rows.map dL).getD j .none)) (fun i => rows.getD i []) (its.toArray.size - 1) fun i j hi hj => by
      have g : ∀ i, i < rows.length → (rows.map dL).getD i .none = dL (rows.getD i []) := fun i hi => by
        rw [List.getD_eq_getElem?_getD, List.getElem?_map, List.getD_eq_getElem?_getD, List.getElem?_eq_getElem hi] <;> rfl
      rw [g i (by omega), g j (by omega)]
      show PySem.W.dataLt (.list _) (.list _) = true ↔ _
      rw [PySem.W.dataLt_list]
      have := PySem.W.dataLt_ints (rows.getD i []) (rows.getD j [])
      unfold PySem.W.rowLt at this
      rw [this, decide_eq_true_eq]
    generalize argBest _ (its.toArray.size - 1) = i at *
    have hi : i < rows.length := by omega
    have er : rows[i]? = some (rows.getD i []) := by rw [List.getD_eq_getElem?_getD, List.getElem?_eq_getElem hi] <;> rfl
    have ep : ps[i]? = some ps[i] := List.getElem?_eq_getElem (by omega)
    obtain ⟨u, hu2, rel⟩ := rv.get ep
    have hP : its.toArray[i]? = some v := hP
    rw [List.getElem?_toArray, hu2] at hP
    cases hP
    refine ⟨_, H, I.kept (t' := tk) hk', rel, q i _ _ ep er fun y hy => ?_⟩
    obtain ⟨j, hj, ej⟩ := List.mem_iff_getElem.mp hy
    have := b2 j (by omega)
    rw [List.getD_eq_getElem?_getD, List.getElem?_eq_getElem hj] at this
    rw [← ej]
    exact this
end Shf

/-! k19: mathematics: how many there are of which no two are alike -/
namespace Shf
open PySem L2
def sm {α : Type} (l : List α) (f : α → Nat) : Nat := (l.map f).sum
theorem sm_nil {α : Type} (f : α → Nat) : sm [] f = 0 := rfl
theorem sm_cons {α : Type} (a : α) (l : List α) (f : α → Nat) : sm (a :: l) f = f a + sm l f := by
  unfold sm
  rw [List.map_cons, List.sum_cons]
theorem sm_congr {α : Type} {f g : α → Nat} : ∀ {l : List α}, (∀ x ∈ l, f x = g x) → sm l f = sm l g
  | [], _ => rfl
  | a :: l, h => by rw [sm_cons, sm_cons, h a List.mem_cons_self, sm_congr fun x hx => h x (List.mem_cons_of_mem _ hx)]
theorem sm_const {α : Type} (c : Nat) : ∀ l : List α, sm l (fun _ => c) = l.length * c
  | [] => by rw [sm_nil, List.length_nil, Nat.zero_mul]
  | a :: l => by rw [sm_cons, sm_const c l, List.length_cons, Nat.add_mul, Nat.one_mul, Nat.add_comm]
theorem sm_add {α : Type} (f g : α → Nat) : ∀ l : List α, sm l (fun x => f x + g x) = sm l f + sm l g
  | [] => rfl
  | a :: l => by rw [sm_cons, sm_cons, sm_cons, sm_add f g l]; omega
theorem sm_swap {α β : Type} (h : α → β → Nat) : ∀ (l : List α) (m : List β), sm l (fun a => sm m fun b => h a b) = sm m (fun b => sm l fun a => h a b)
  | [], m => by
    rw [sm_nil]
    have : sm m (fun b => sm ([] : List α) fun a => h a b) = sm m (fun _ => 0) := rfl
    rw [this, sm_const, Nat.mul_zero]
  | a :: l, m => by
    rw [sm_cons, sm_swap h l m, ← sm_add]
    exact sm_congr fun b _ => (sm_cons a l fun a => h a b).symm
theorem sm_zero {α : Type} {f : α → Nat} {l : List α} (h : ∀ x ∈ l, f x = 0) : sm l f = 0 := by
  rw [sm_congr (g := fun _ => 0) h, sm_const, Nat.mul_zero]
theorem sm_one {α : Type} {f : α → Nat} {a : α} : ∀ {l : List α}, l.Nodup → a ∈ l → (∀ x ∈ l, x ≠ a → f x = 0) → sm l f = f a
  | [], _, h, _ => by cases h
  | b :: l, nd, h, hz => by
    obtain ⟨n1, n2⟩ := List.nodup_cons.mp nd
    rw [sm_cons]
    rcases List.mem_cons.mp h with e | h
    · subst e
      rw [sm_zero (f := f) (l := l) fun x hx => hz x (List.mem_cons_of_mem _ hx) fun e => n1 (e ▸ hx), Nat.add_zero]
    · rw [hz b List.mem_cons_self fun e => n1 (e ▸ h), Nat.zero_add]
      exact sm_one n2 h fun x hx => hz x (List.mem_cons_of_mem _ hx)
theorem cnt_sm {α : Type} (p : α → Bool) : ∀ l : List α, (l.filter p).length = sm l fun x => if p x = true then 1 else 0
  | [] => rfl
  | a :: l => by
    rw [sm_cons, ← cnt_sm p l, List.filter_cons]
    by_cases c : p a = true
    · rw [if_pos c, if_pos c, List.length_cons, Nat.add_comm]
    · rw [if_neg c, if_neg c, Nat.zero_add]
abbrev iv (x : List Nat) : List Int := x.map fun (k : Nat) => (k : Int)
def ltR (x y : List Nat) : Prop := iv x < iv y
instance (x y : List Nat) : Decidable (ltR x y) := inferInstanceAs (Decidable (iv x < iv y))
theorem ltR_trans {x y z : List Nat} (h : ltR x y) (k : ltR y z) : ltR x z := List.lt_trans (α := Int) h k
theorem ltR_irrefl (x : List Nat) : ¬ ltR x x := List.lt_irrefl (α := Int) (iv x)
theorem ltR_eq {x y : List Nat} (h : ¬ ltR x y) (k : ¬ ltR y x) : x = y := vInj.mp (List.le_antisymm (α := Int) k h)
theorem least_ltR : ∀ l : List (List Nat), l ≠ [] → ∃ m ∈ l, ∀ y ∈ l, ¬ ltR y m
  | [], h => absurd rfl h
  | [a], _ => ⟨a, List.mem_cons_self, fun y hy z => by
    rw [List.mem_singleton.mp hy] at z
    exact ltR_irrefl _ z⟩
  | a :: b :: r, _ => by
    obtain ⟨m, hm, h⟩ := least_ltR (b :: r) (by simp)
    by_cases c : ltR a m
    · refine ⟨a, List.mem_cons_self, fun y hy z => ?_⟩
      rcases List.mem_cons.mp hy with e | hy
      · rw [e] at z; exact ltR_irrefl _ z
      · exact h y hy (ltR_trans z c)
    · refine ⟨m, List.mem_cons_of_mem _ hm, fun y hy z => ?_⟩
      rcases List.mem_cons.mp hy with e | hy
      · rw [e] at z; exact c z
      · exact h y hy z
def minX (G : List (List Nat)) (x : List Nat) : Bool := G.all fun b => !decide (ltR (jn b x) x)
theorem minX_iff {G : List (List Nat)} {x : List Nat} : minX G x = true ↔ ∀ b ∈ G, ¬ ltR (jn b x) x := by
  unfold minX
  rw [List.all_eq_true]
  constructor
  · intro h b hb z
    have := h b hb
    rw [decide_eq_true z] at this
    cases this
  · intro h b hb
    rw [decide_eq_false (h b hb)] <;> rfl
theorem id_jnL {n : Nat} {x : List Nat} (h : x.length = n) : jn (List.range n) x = x := by
  have := id_jn x
  rw [h] at this
  exact this
/-- a group of renamings upon rows -/
structure Grp (n : Nat) (G X : List (List Nat)) : Prop where
  gp : ∀ a ∈ G, IsP n a
  g1 : List.range n ∈ G
  gm : ∀ a ∈ G, ∀ b ∈ G, jn a b ∈ G
  gi : ∀ a ∈ G, trn a ∈ G
  gn : G.Nodup
  xn : X.Nodup
  xl : ∀ x ∈ X, x.length = n
  xc : ∀ a ∈ G, ∀ x ∈ X, jn a x ∈ X
section
variable {n : Nat} {G X : List (List Nat)} (h : Grp n G X)
include h
theorem Grp.asc {a b x : List Nat} (ha : a ∈ G) (hb : b ∈ G) : jn (jn a b) x = jn a (jn b x) := jn_assoc fun z hz => by rw [(h.gp b hb).len]; exact (h.gp a ha).lt hz
theorem Grp.back {t x : List Nat} (ht : t ∈ G) (hx : x ∈ X) : jn (trn t) (jn t x) = x := by
  rw [← h.asc (h.gi t ht) ht, trn_jn (h.gp t ht), id_jnL (h.xl x hx)]
theorem Grp.stab {t m : List Nat} (ht : t ∈ G) (hm : m ∈ X) : (G.filter fun g => decide (jn g (jn t m) = jn t m)).length = (G.filter fun g => decide (jn g m = jn t m)).length := by
  have key : ((G.filter fun g => decide (jn g (jn t m) = jn t m)).map fun g => jn g t).length = (G.filter fun g => decide (jn g m = jn t m)).length := by
    refine nd_len ?_ (h.gn.filter _) fun z => ?_
    · refine List.pairwise_map.mpr (List.Pairwise.imp_of_mem ?_ (h.gn.filter _))
      intro a b ha hb ne e
      have ha := (List.mem_filter.mp ha).1
      have hb := (List.mem_filter.mp hb).1
      exact ne (jn_cancel (h.gp a ha) (h.gp b hb) (h.gp t ht) e)
    · rw [List.mem_map, List.mem_filter, decide_eq_true_eq]
      constructor
      · rintro ⟨g, hg, rfl⟩
        obtain ⟨hg, e⟩ := List.mem_filter.mp hg
        rw [decide_eq_true_eq] at e
        exact ⟨h.gm g hg t ht, by rw [h.asc hg ht]; exact e⟩
      · rintro ⟨hz, e⟩
        have hti := h.gi t ht
        refine ⟨jn z (trn t), List.mem_filter.mpr ⟨h.gm z hz _ hti, ?_⟩, ?_⟩
        · rw [decide_eq_true_eq, h.asc hz hti, h.back ht hm]
          exact e
        · rw [h.asc hz hti, trn_jn (h.gp t ht), jn_idP (h.gp z hz)]
  rw [List.length_map] at key
  exact key
/-- each row has just one least that leads to it -/
theorem Grp.least {x : List Nat} (hx : x ∈ X) : ∃ m ∈ X.filter (minX G), ∃ t ∈ G, jn t m = x := by
  obtain ⟨m, hm, hl⟩ := least_ltR (G.map fun b => jn b x) (fun e => by
    have : jn (List.range n) x ∈ G.map fun b => jn b x := List.mem_map.mpr ⟨_, h.g1, rfl⟩
    rw [e] at this
    cases this)
  obtain ⟨b, hb, rfl⟩ := List.mem_map.mp hm
  refine ⟨jn b x, List.mem_filter.mpr ⟨h.xc b hb x hx, minX_iff.mpr fun c hc z => ?_⟩, trn b, h.gi b hb, h.back hb hx⟩
  rw [← h.asc hc hb] at z
  exact hl _ (List.mem_map.mpr ⟨_, h.gm c hc b hb, rfl⟩) z
theorem Grp.least_uniq {m m' t t' : List Nat} (hm : m ∈ X.filter (minX G)) (hm' : m' ∈ X.filter (minX G)) (ht : t ∈ G) (ht' : t' ∈ G) (e : jn t m = jn t' m') : m = m' := by
  obtain ⟨x1, l1⟩ := List.mem_filter.mp hm
  obtain ⟨x2, l2⟩ := List.mem_filter.mp hm'
  have l1 := minX_iff.mp l1
  have l2 := minX_iff.mp l2
  have e1 : jn (jn (trn t) t') m' = m := by rw [h.asc (h.gi t ht) ht', ← e, h.back ht x1]
  have e2 : jn (jn (trn t') t) m = m' := by rw [h.asc (h.gi t' ht') ht, e, h.back ht' x2]
  have k1 := l1 _ (h.gm _ (h.gi t' ht') t ht)
  have k2 := l2 _ (h.gm _ (h.gi t ht) t' ht')
  rw [e2] at k1
  rw [e1] at k2
  exact ltR_eq k2 k1
theorem Grp.burnside : sm G (fun g => (X.filter fun x => decide (jn g x = x)).length) = (X.filter (minX G)).length * G.length := by
  have s1 : sm G (fun g => (X.filter fun x => decide (jn g x = x)).length) = sm G (fun g => sm X fun x => if decide (jn g x = x) = true then 1 else 0) := sm_congr fun g _ => cnt_sm _ X
  rw [s1, sm_swap]
  have s2 : sm X (fun x => sm G fun g => if decide (jn g x = x) = true then 1 else 0) = sm X (fun x => sm (X.filter (minX G)) fun m => sm G fun g => if decide (jn g m = x) = true then 1 else 0) := by
    refine sm_congr fun x hx => ?_
    obtain ⟨m0, hm0, t, ht, rfl⟩ := h.least hx
    rw [sm_one (a := m0) (h.xn.filter _) hm0 fun m hm ne => sm_zero fun g hg => ?_]
    · rw [← cnt_sm (fun g => decide (jn g (jn t m0) = jn t m0)), ← cnt_sm (fun g => decide (jn g m0 = jn t m0))]
      exact h.stab ht (List.mem_filter.mp hm0).1
    · refine if_neg fun c => ne ?_
      exact h.least_uniq hm hm0 hg ht (of_decide_eq_true c)
  rw [s2, sm_swap]
  have s3 : sm (X.filter (minX G)) (fun m => sm X fun x => sm G fun g => if decide (jn g m = x) = true then 1 else 0) = sm (X.filter (minX G)) (fun _ => G.length) := by
    refine sm_congr fun m hm => ?_
    rw [sm_swap]
    have hmx := (List.mem_filter.mp hm).1
    have : sm G (fun g => sm X fun x => if decide (jn g m = x) = true then 1 else 0) = sm G (fun _ => 1) := by
      refine sm_congr fun g hg => ?_
      rw [sm_one (a := jn g m) h.xn (h.xc g hg m hmx) fun x _ ne => if_neg fun c => ne (of_decide_eq_true c).symm]
      exact if_pos (decide_eq_true rfl)
    rw [this, sm_const, Nat.mul_one]
  rw [s3, sm_const]
end
/-! ### rows of dyes -/
def rowZ (z : Nat) : Nat → Nat → List Nat
  | 0, _ => []
  | n + 1, t => t % z :: rowZ z n (t / z)
theorem rowZ_len (z : Nat) : ∀ n t, (rowZ z n t).length = n
  | 0, _ => rfl
  | n + 1, t => by
    show (t % z :: rowZ z n (t / z)).length = n + 1
    rw [List.length_cons, rowZ_len z n]
theorem rowZ_lt {z : Nat} (h : 0 < z) : ∀ n t, ∀ v ∈ rowZ z n t, v < z
  | 0, _, v, hv => by cases hv
  | n + 1, t, v, hv => by
    rcases List.mem_cons.mp hv with e | hv
    · rw [e]; exact Nat.mod_lt _ h
    · exact rowZ_lt h n _ v hv
theorem rowZ_snoc (z : Nat) : ∀ n t, rowZ z (n + 1) t = rowZ z n t ++ [t / z ^ n % z]
  | 0, t => by
    show [t % z] = [] ++ [t / z ^ 0 % z]
    rw [Nat.pow_zero, Nat.div_one] <;> rfl
  | n + 1, t => by
    show t % z :: rowZ z (n + 1) (t / z) = t % z :: (rowZ z n (t / z) ++ [t / z ^ (n + 1) % z])
    rw [rowZ_snoc z n (t / z), Nat.div_div_eq_div_mul, Nat.pow_succ, Nat.mul_comm z]
def valZ (z : Nat) : List Nat → Nat
  | [] => 0
  | v :: l => v + z * valZ z l
theorem rowZ_val {z : Nat} (h : 0 < z) : ∀ (x : List Nat), (∀ v ∈ x, v < z) → rowZ z x.length (valZ z x) = x ∧ valZ z x < z ^ x.length
  | [], _ => ⟨rfl, by show 0 < z ^ 0; rw [Nat.pow_zero]; omega⟩
  | v :: l, hv => by
    obtain ⟨i1, i2⟩ := rowZ_val h l fun w hw => hv w (List.mem_cons_of_mem _ hw)
    have h1 := hv v List.mem_cons_self
    constructor
    · show (v + z * valZ z l) % z :: rowZ z l.length ((v + z * valZ z l) / z) = v :: l
      rw [Nat.add_mul_mod_self_left, Nat.mod_eq_of_lt h1, Nat.add_mul_div_left _ _ h, Nat.div_eq_of_lt h1, Nat.zero_add, i1]
    · show v + z * valZ z l < z ^ (l.length + 1)
      rw [Nat.pow_succ]
      have : z * (valZ z l + 1) ≤ z * z ^ l.length := Nat.mul_le_mul_left _ i2
      rw [Nat.mul_add, Nat.mul_one] at this
      rw [Nat.mul_comm (z ^ l.length)]
      omega
theorem val_rowZ {z : Nat} (h : 0 < z) : ∀ (n t : Nat), t < z ^ n → valZ z (rowZ z n t) = t
  | 0, t, ht => by
    rw [Nat.pow_zero] at ht
    show 0 = t
    omega
  | n + 1, t, ht => by
    show t % z + z * valZ z (rowZ z n (t / z)) = t
    rw [val_rowZ h n (t / z) (Nat.div_lt_of_lt_mul (by rw [Nat.mul_comm, ← Nat.pow_succ]; exact ht))]
    exact Nat.mod_add_div t z
def rowsZ (z n : Nat) : List (List Nat) := (List.range (z ^ n)).map (rowZ z n)
theorem rowsZ_mem {z n : Nat} (h : 0 < z) {x : List Nat} : x ∈ rowsZ z n ↔ x.length = n ∧ ∀ v ∈ x, v < z := by
  unfold rowsZ
  rw [List.mem_map]
  constructor
  · rintro ⟨t, _, rfl⟩
    exact ⟨rowZ_len z n t, rowZ_lt h n t⟩
  · rintro ⟨rfl, hv⟩
    obtain ⟨e1, e2⟩ := rowZ_val h x hv
    exact ⟨_, List.mem_range.mpr e2, e1⟩
theorem rowsZ_nd {z n : Nat} (h : 0 < z) : (rowsZ z n).Nodup := by
  refine List.pairwise_map.mpr (List.Pairwise.imp_of_mem ?_ List.nodup_range)
  intro a b ha hb ne e
  refine ne ?_
  rw [← val_rowZ h n a (List.mem_range.mp ha), ← val_rowZ h n b (List.mem_range.mp hb), e]
theorem jn_rows {z n : Nat} (h : 0 < z) {a x : List Nat} (pa : IsP n a) (hx : x ∈ rowsZ z n) : jn a x ∈ rowsZ z n := by
  obtain ⟨h1, h2⟩ := (rowsZ_mem h).mp hx
  refine (rowsZ_mem h).mpr ⟨by rw [jn_len, pa.len], fun v hv => ?_⟩
  obtain ⟨k, hk, rfl⟩ := List.mem_map.mp hv
  have hk := pa.lt hk
  refine h2 _ ?_
  rw [List.getD_eq_getElem?_getD, List.getElem?_eq_getElem (by rw [h1]; exact hk)]
  exact List.getElem_mem _
/-- the book's group -/
theorem grp_enum {B : Bk} {moves : List (List Nat)} (C : Closed B moves) (hm : ∀ m ∈ moves, IsP B.n m) {z : Nat} (hz : 0 < z) : Grp B.n (enumB B) (rowsZ z B.n) := by
  have mem : ∀ a, a ∈ enumB B ↔ Gen B.n moves a := fun a => by
    constructor
    · intro h
      have s := (enumB_mem C.ok _).mp h
      have pa := s.isP C.ok
      exact (sifts_gen C hm pa).mp ((sifts_sk C.ok pa).mpr s)
    · intro g
      have pa := Gen.isP hm g
      exact (enumB_mem C.ok _).mpr ((sifts_sk C.ok pa).mp ((sifts_gen C hm pa).mpr g))
  refine ⟨fun a ha => Gen.isP hm ((mem a).mp ha), (mem _).mpr .one, fun a ha b hb => (mem _).mpr (Gen.jn hm ((mem a).mp ha) ((mem b).mp hb)), fun a ha => (mem _).mpr (Gen.trn hm ((mem a).mp ha)), ?_, rowsZ_nd hz, fun x hx => ((rowsZ_mem hz).mp hx).1, fun a ha x hx => jn_rows hz (Gen.isP hm ((mem a).mp ha)) hx⟩
  exact (enumB_lex C.ok).imp fun h e => by
    rw [e] at h
    exact LexLt.irrefl h
end Shf

/-! k19: its dyeings walked -/
namespace Shf
open PySem L2
def sp_L_dyeing (K : PySem.W.Frag) (g : Gd) : Sp := fun vs H Q _ => ∃ t z n : Nat, vs = [.int (t : Int), .int (z : Int), .int (n : Int)] ∧ 1 ≤ z ∧ n ≤ 1000 ∧ z ≤ 1000 ∧ NewLN H (rowZ z n t) Q
theorem len_L_dyeing (K : PySem.W.Frag) (g : Gd) (vs : List V) (H : Hp) (Q : VK) (E : XK) (h : sp_L_dyeing K g vs H Q E) : vs.length = 3 := by obtain ⟨_, _, _, rfl, _⟩ := h; rfl
abbrev N_L_dyeing : List Str := ["n", "dyes", "size", "row", "k"]
/-- _law_dyeing -/
def t_L_dyeing (K : PySem.W.Frag) (g : Gd) (E : XK) : TS :=
  (tSeq (tAsg (tLst tNil) (gName 3))
    (tSeq (tFor (iRng1 (tCons (tVar 2) tNil)) (gName 4) (tSeq (tDrop (tBM K "list" rAppend (tVar 3) (tCons (tOp rModI (tVar 0) (tVar 1)) tNil)))
    (tAsg (tOp rDivI (tVar 0) (tVar 1)) (gName 0))))
    (tRet (tVar 3))))
theorem pure_L_dyeing {K : PySem.W.Frag} {g : Gd} (vs : List V) (H : Hp) (Q : VK) (E : XK) (h : sp_L_dyeing K g vs H Q E) : Rd1 (t_L_dyeing K g E) N_L_dyeing vs H Q := by
  obtain ⟨t, z, n, rfl, hz, hn, hz2, k⟩ := h
  unfold t_L_dyeing
  walk_at "rd"
  refine ⟨zl (by show 0 ≤ 100000; decide), fun r hr => ?_⟩
  walk_at "rd"
  refine w_for1 (n := n) (by omega) (fun i σ H' => (∃ v, σ = [some (.int ((t / z ^ i : Nat) : Int)), some (.int (z : Int)), some (.int (n : Int)), some (.ref r), v]) ∧ Same H H' ∧ H' r = some (.lst (vN (rowZ z i t)))) ⟨⟨none, by rw [Nat.pow_zero, Nat.div_one]; rfl⟩, (Same.refl H).new hr, upd_same⟩ ?_ ?_
  · rintro i σ H' hi ⟨⟨v, rfl⟩, s, hL⟩
    walk_at "rd"
    refine ⟨isL (sqL hL), ?_⟩
    walk_at "rd"
    refine mod_I (by omega) ?_
    walk_at "ex"
    refine app_V hL (by rw [vN_len, rowZ_len]; omega) ?_
    walk_at "rd"
    refine div_I (by omega) (by omega) ?_
    walk_at "rd"
    refine ⟨⟨some (.int (i : Int)), ?_⟩, s.up hr, ?_⟩
    · rw [Nat.pow_succ, ← Nat.div_div_eq_div_mul, Int.natCast_ediv] <;> rfl
    · rw [upd_same, rowZ_snoc, ← vN_cat, ← Int.natCast_emod] <;> rfl
  · rintro σ H' ⟨⟨v, rfl⟩, s, hL⟩
    walk_at "rd"
    exact k r _ s hr hL
def mvK (a x : List Nat) (k : Nat) : List Nat := (List.range k).foldl (fun m i => m.set (a.getD i 0) (x.getD i 0)) (List.replicate a.length 0)
theorem mvK_succ (a x : List Nat) (k : Nat) : mvK a x (k + 1) = (mvK a x k).set (a.getD k 0) (x.getD k 0) := by
  unfold mvK
  rw [List.range_succ, List.foldl_append] <;> rfl
theorem mvK_len (a x : List Nat) : ∀ k, (mvK a x k).length = a.length
  | 0 => List.length_replicate ..
  | k + 1 => by rw [mvK_succ, List.length_set, mvK_len a x k]
theorem mvK_get {n : Nat} {a x : List Nat} (h : IsP n a) : ∀ k, k ≤ n → ∀ i, i < k → (mvK a x k).getD (a.getD i 0) 0 = x.getD i 0
  | 0, _, i, hi => absurd hi (Nat.not_lt_zero i)
  | k + 1, hk, i, hi => by
    rw [mvK_succ]
    by_cases e : i = k
    · rw [e, List.getD_eq_getElem?_getD, List.getElem?_set_self (by rw [mvK_len, h.len]; exact h.getD_lt (by omega))] <;> rfl
    · have ne : a.getD k 0 ≠ a.getD i 0 := fun z => e (nd_getD h.nd (by rw [h.len]; omega) (by rw [h.len]; omega) z.symm)
      rw [List.getD_eq_getElem?_getD, List.getElem?_set_ne ne, ← List.getD_eq_getElem?_getD]
      exact mvK_get h k (by omega) i (by omega)
theorem mvK_all {n : Nat} {a x : List Nat} (h : IsP n a) (hx : x.length = n) : mvK a x n = jn (trn a) x := by
  refine ext_getD (by rw [mvK_len, jn_len, trn_len]) fun j hj => ?_
  rw [mvK_len, h.len] at hj
  have e := trn_get' h hj
  have lt : (trn a).getD j 0 < n := (isP_trn h).getD_lt hj
  rw [jn_get (by rw [trn_len, h.len]; exact hj)]
  have := mvK_get (x := x) h n (Nat.le_refl n) _ lt
  rw [e] at this
  exact this
def sp_L_moved (K : PySem.W.Frag) (g : Gd) : Sp := fun vs H Q _ => ∃ (p q : Addr) (n : Nat) (x a : List Nat), vs = [.ref p, .ref q] ∧ SqL K H p (vN x) ∧ SqT K H q (vN a) ∧ IsP n a ∧ x.length = n ∧ n ≤ 1000 ∧ NewLN H (jn (trn a) x) Q
theorem len_L_moved (K : PySem.W.Frag) (g : Gd) (vs : List V) (H : Hp) (Q : VK) (E : XK) (h : sp_L_moved K g vs H Q E) : vs.length = 2 := by obtain ⟨_, _, _, _, _, rfl, _⟩ := h; rfl
abbrev N_L_moved : List Str := ["row", "a", "made", "k"]
/-- _law_moved -/
def t_L_moved (K : PySem.W.Frag) (g : Gd) (E : XK) : TS :=
  (tSeq (tAsg (tOp rRep (tLst (tCons (tC (.int 0)) tNil)) (tCB (rLenQ K) (tCons (tVar 0) tNil))) (gName 2))
    (tSeq (tFor (iRng1 (tCons (tCB (rLenQ K) (tCons (tVar 0) tNil)) tNil)) (gName 3) (tAsg (tOp (rIxL K) (tVar 0) (tVar 3)) (gSub (tVar 2) (tOp (rIxT K) (tVar 1) (tVar 3)) rSetL)))
    (tRet (tVar 2))))
theorem pure_L_moved {K : PySem.W.Frag} {g : Gd} (vs : List V) (H : Hp) (Q : VK) (E : XK) (h : sp_L_moved K g vs H Q E) : Rd1 (t_L_moved K g E) N_L_moved vs H Q := by
  obtain ⟨p, q, n, x, a, rfl, hp, hq, pa, hx, hn, k⟩ := h
  subst hx
  unfold t_L_moved
  walk_at "rd"
  refine ⟨zl (by show 1 ≤ 100000; decide), fun z hz => ?_⟩
  walk_at "rd"
  have s1 : Same H (upd H z (.lst [V.int 0])) := (Same.refl H).new hz
  refine len_LN (s1.lst hp) ?_
  refine rep_0 (by omega) upd_same fun l hl => ?_
  have s2 := s1.new (o := .lst (vN (List.replicate x.length 0))) hl
  have hl0 : H l = none := s1.free hl
  walk_at "rd"
  refine len_LN (s2.lst hp) ?_
  walk_at "rd"
  refine w_for1 (n := x.length) (by omega) (fun i σ H' => (∃ v, σ = [some (.ref p), some (.ref q), some (.ref l), v]) ∧ Same H H' ∧ H' l = some (.lst (vN (mvK a x i)))) ⟨⟨_, rfl⟩, s2, by rw [upd_same]; unfold mvK; rw [pa.len] <;> rfl⟩ ?_ ?_
  · rintro i σ H' hi ⟨⟨v, rfl⟩, s, hL⟩
    walk_at "rd"
    refine ix_LN (i := i) (s.lst hp) hi rfl ?_
    walk_at "rd"
    refine ix_TN (i := i) (s.tup hq) (by rw [pa.len]; exact hi) rfl ?_
    refine set_N (i := a.getD i 0) (n := x.getD i 0) hL (by rw [mvK_len, pa.len]; exact pa.getD_lt hi) rfl ?_
    exact ⟨⟨_, rfl⟩, s.up hl0, by rw [upd_same, mvK_succ]⟩
  · rintro σ H' ⟨⟨v, rfl⟩, s, hL⟩
    walk_at "rd"
    rw [mvK_all pa rfl] at hL
    exact k l _ s hl0 hL
theorem dpAll_LLN {K : PySem.W.Frag} {H0 H : Hp} {ps : List V} {rows : List (List Nat)} (h : LLN H0 H ps rows) : DpAll K H ps ((rows.map iv).map dL) := by
  induction h with
  | nil => exact .nil
  | cons h1 _ _ ih =>
    rw [vN_eq] at h1
    exact .cons (dp_L (sqL h1)) ih
/-- the least of what the group makes of a row: the row itself just where none is less -/
theorem least_is {n : Nat} {G X L : List (List Nat)} (h : Grp n G X) (hL : ∀ a, a ∈ L ↔ a ∈ G) {x r : List Nat} (hx : x ∈ X) (hr : r ∈ L.map fun a => jn (trn a) x) (hmin : ∀ y ∈ L.map fun a => jn (trn a) x, ¬ ltR y r) : decide (r = x) = minX G x := by
  rw [Bool.eq_iff_iff, decide_eq_true_eq, minX_iff]
  obtain ⟨a, ha, rfl⟩ := List.mem_map.mp hr
  have ha := (hL a).mp ha
  constructor
  · intro e b hb z
    have m : jn b x ∈ L.map fun a => jn (trn a) x := List.mem_map.mpr ⟨trn b, (hL _).mpr (h.gi b hb), by show jn (trn (trn b)) x = _; rw [trn2 (h.gp b hb)]⟩
    have := hmin _ m
    rw [e] at this
    exact this z
  · intro hb
    have m : x ∈ L.map fun a => jn (trn a) x := List.mem_map.mpr ⟨List.range n, (hL _).mpr h.g1, by show jn (trn (List.range n)) x = _; rw [trn_id, id_jnL (h.xl x hx)]⟩
    exact ltR_eq (hb _ (h.gi a ha)) (hmin x m)
def sp_L_counted (K : PySem.W.Frag) (g : Gd) : Sp := fun vs H Q _ => ∃ (d : Addr) (z n : Nat) (dv : List V) (L G : List (List Nat)), vs = [.ref d, .int (z : Int), .int (n : Int)] ∧ H d = some (.lst dv) ∧ LT H dv L ∧ 1 ≤ z ∧ z ≤ 6 ∧ n ≤ 4 ∧ Grp n G (rowsZ z n) ∧ (∀ a, a ∈ L ↔ a ∈ G) ∧ L.length ≤ 1000 ∧
  ∀ H', Same H H' → Q (.int ((((rowsZ z n).filter (minX G)).length : Nat) : Int)) H'
theorem len_L_counted (K : PySem.W.Frag) (g : Gd) (vs : List V) (H : Hp) (Q : VK) (E : XK) (h : sp_L_counted K g vs H Q E) : vs.length = 3 := by obtain ⟨_, _, _, _, _, _, rfl, _⟩ := h; rfl
abbrev N_L_counted : List Str := ["reached", "dyes", "size", "many", "k", "due", "n", "row", "a"]
/-- _law_counted -/
def t_L_counted (K : PySem.W.Frag) (g : Gd) (E : XK) : TS :=
  (tSeq (tAsg (tC (.int 1)) (gName 3))
    (tSeq (tFor (iRng1 (tCons (tVar 2) tNil)) (gName 4) (tAsg (tOp rMulI (tVar 3) (tVar 1)) (gName 3)))
    (tSeq (tAsg (tC (.int 0)) (gName 5))
    (tSeq (tFor (iRng1 (tCons (tVar 3) tNil)) (gName 6) (tSeq (tAsg (tCallS (sp_L_dyeing K g) (fun _ => E0) (tCons (tVar 6) (tCons (tVar 1) (tCons (tVar 2) tNil)))) (gName 7))
    (tIfS (tTest (tOp (rEqD K) (tCB (rMinLL K) (tCons (tLc (iList K (tVar 0)) (gName 8) tYes (tCallS (sp_L_moved K g) (fun _ => E0) (tCons (tVar 7) (tCons (tVar 8) tNil))) [8]) tNil)) (tVar 7))) (tAsg (tOp rAddI (tVar 5) (tC (.int 1))) (gName 5)) tNext)))
    (tRet (tVar 5))))))
theorem pure_L_counted {K : PySem.W.Frag} {g : Gd} (vs : List V) (H : Hp) (Q : VK) (E : XK) (h : sp_L_counted K g vs H Q E) : Rd1 (t_L_counted K g E) N_L_counted vs H Q := by
  obtain ⟨d, z, n, dv, L, G, rfl, hd, hLT, z1, z6, n4, hG, hL, hLl, k⟩ := h
  have hpow : z ^ n ≤ 6 ^ 4 := Nat.le_trans (Nat.pow_le_pow_left z6 n) (Nat.pow_le_pow_right (by decide) n4)
  unfold t_L_counted
  walk_at "rd"
  refine w_for1 (n := n) (by omega) (fun i σ H' => (∃ v, σ = [some (.ref d), some (.int (z : Int)), some (.int (n : Int)), some (.int ((z ^ i : Nat) : Int)), v, none, none, none, none]) ∧ H' = H) ⟨⟨none, by rw [Nat.pow_zero]; rfl⟩, rfl⟩ ?_ ?_
  · rintro i σ H' hi ⟨⟨v, rfl⟩, rfl⟩
    walk_at "rd"
    refine mul_I (.inr ⟨by omega, by omega⟩) ?_
    walk_at "rd"
    refine ⟨⟨some (.int (i : Int)), ?_⟩, rfl⟩
    rw [Nat.pow_succ, Int.natCast_mul] <;> rfl
  rintro σ H' ⟨⟨v, rfl⟩, rfl⟩
  walk_at "rd"
  refine w_for1 (n := z ^ n) (by omega) (fun i σ H2 => (∃ y1 y2 y3, σ = [some (.ref d), some (.int (z : Int)), some (.int (n : Int)), some (.int ((z ^ n : Nat) : Int)), v, some (.int (((((List.range i).map (rowZ z n)).filter (minX G)).length : Nat) : Int)), y1, y2, y3]) ∧ Same H' H2) ⟨⟨_, _, _, rfl⟩, Same.refl _⟩ ?_ ?_
  · rintro i σ H2 hi ⟨⟨y1, y2, y3, rfl⟩, s2⟩
    walk_at "rd"
    refine ⟨i, z, n, rfl, z1, by omega, by omega, fun r H3 s3 hr0 hr => ?_⟩
    have hx : rowZ z n i ∈ rowsZ z n := List.mem_map.mpr ⟨i, List.mem_range.mpr hi, rfl⟩
    have hxl := rowZ_len z n i
    have step : (((List.range (i + 1)).map (rowZ z n)).filter (minX G)).length = (((List.range i).map (rowZ z n)).filter (minX G)).length + (if minX G (rowZ z n i) = true then 1 else 0) := by
      rw [List.range_succ, List.map_append, List.filter_append, List.length_append]
      congr 1
      show ([rowZ z n i].filter (minX G)).length = _
      rw [List.filter_cons]
      by_cases c : minX G (rowZ z n i) = true
      · rw [if_pos c, if_pos c] <;> rfl
      · rw [if_neg c, if_neg c] <;> rfl
    generalize rowZ z n i = x at *
    have s13 := s2.trans s3
    have hd3 := s13 _ _ hd
    have hLT3 := hLT.mono s13
    walk_at "rd"
    refine w_lc (w_ilist ?_)
    walk_at "ex"
    refine ⟨d, rfl, ⟨_, sqL hd3⟩, fun D hD => lc_list (K := K) (a := d) (xs := dv) (fun i H' => Same H3 H' ∧ ∃ ps, H' D = some (.lst ps) ∧ (V.ref D) ∉ ps ∧ LLN H3 H' ps ((L.take i).map fun a => jn (trn a) x)) ⟨(Same.refl H3).new hD, [], upd_same, by simp, .nil⟩ (fun j H4 _ q => sqL (q.1 _ _ hd3)) ?_ ?_⟩
    · rintro j v H4 hj ⟨s4, ps, hps, hno, hll⟩
      obtain ⟨q, a, rfl, ha, hq⟩ := hLT3.get' hj
      have pa : IsP n a := hG.gp a ((hL a).mp (List.mem_of_getElem? ha))
      refine ⟨rfl, ?_⟩
      walk_at "ex"
      refine ⟨r, q, n, x, a, rfl, sqL (s4 _ _ hr), sqT (s4 _ _ hq), pa, hxl, by omega, fun p H5 s5 hp0 hp => ?_⟩
      have hne : p ≠ D := fun e => by rw [e, hps] at hp0; cases hp0
      have hlen : ps.length ≤ 1000 := by
        rw [hll.len, List.length_map, List.length_take]
        omega
      refine ⟨ps, s5 _ _ hps, zlt (by omega), (s4.trans s5).up hD, ps ++ [.ref p], upd_same, ?_, ?_⟩
      · intro z
        rcases List.mem_append.mp z with z | z
        · exact hno z
        · rw [List.mem_singleton] at z
          exact hne (V.ref.inj z).symm
      · rw [take_more ha, List.map_append]
        refine LLN.snoc (by rw [upd_ne hne]; exact hp) (s4.free hp0) ?_
        exact (hll.mono s5).out (s5 _ _ hps) hno
    · rintro H4 ⟨s4, ps, hps, hno, hll⟩
      rw [hLT3.len, List.take_length] at hll
      have hne : L ≠ [] := fun e => by
        have := (hL _).mpr hG.g1
        rw [e] at this
        cases this
      refine ⟨D, ps, _, rfl, sqL hps, dpAll_LLN hll, by simpa using hne, fun j v rr hv hrr hmin => ?_⟩
      rw [List.getElem?_map] at hrr
      cases er : (L.map fun a => jn (trn a) x)[j]? with
      | none => rw [er] at hrr; cases hrr
      | some rw' =>
        rw [er] at hrr
        obtain rfl := Option.some.inj hrr
        obtain ⟨p, ep, hp, _⟩ := hll.get er
        rw [ep] at hv
        obtain rfl := Option.some.inj hv
        walk_at "ex"
        refine eq_LN (sqL hp) (sqL (s4 _ _ hr)) ?_
        have dec := least_is hG hL hx (List.mem_of_getElem? er) fun y hy => hmin (iv y) (List.mem_map.mpr ⟨y, hy, rfl⟩)
        rw [dec]
        walk_at "ex"
        refine if_b (fun c => ?_) (fun c => ?_)
        · walk_at "rd"
          refine ⟨⟨some (.int (i : Int)), some (.ref r), y3, ?_⟩, (s13.trans s4)⟩
          rw [step, if_pos c] <;> rfl
        · walk_at "rd"
          refine ⟨⟨some (.int (i : Int)), some (.ref r), y3, ?_⟩, (s13.trans s4)⟩
          rw [step, c, if_neg Bool.false_ne_true] <;> rfl
  · rintro σ H2 ⟨⟨y1, y2, y3, rfl⟩, s2⟩
    walk_at "rd"
    exact k _ s2
end Shf

/-! k19: mathematics of its rooms -/
namespace Shf
open PySem L2
def fixC (n z : Nat) : Bool := (permsF n (List.range n)).all fun a => decide (((rowsZ z n).filter fun x => decide (jn a x = x)).length = z ^ ((n : Int) - oddN (ringsN a)).toNat)
theorem fixC_1 : ∀ z, z < 7 → 1 ≤ z → fixC 1 z = true := by decide +kernel
theorem fixC_2 : ∀ z, z < 7 → 1 ≤ z → fixC 2 z = true := by decide +kernel
theorem fixC_3 : ∀ z, z < 7 → 1 ≤ z → fixC 3 z = true := by decide +kernel
theorem fixC_4 : ∀ z, z < 4 → 1 ≤ z → fixC 4 z = true := by decide +kernel
theorem fix_is {n z : Nat} (h1 : 1 ≤ n) (h4 : n ≤ 4) (z1 : 1 ≤ z) (z6 : z ≤ 6) (z3 : n = 4 → z ≤ 3) {a : List Nat} (pa : IsP n a) : ((rowsZ z n).filter fun x => decide (jn a x = x)).length = z ^ ((n : Int) - oddN (ringsN a)).toNat := by
  have c : fixC n z = true := by
    match n, h1, h4 with
    | 1, _, _ => exact fixC_1 z (by omega) z1
    | 2, _, _ => exact fixC_2 z (by omega) z1
    | 3, _, _ => exact fixC_3 z (by omega) z1
    | 4, _, _ => exact fixC_4 z (by have := z3 rfl; omega) z1
  unfold fixC at c
  rw [List.all_eq_true] at c
  exact of_decide_eq_true (c a (permsF_mem n _ a pa.len pa))
theorem dyeS_sm (n z : Nat) (as : List (List Nat)) : dyeS n (z : Int) as = ((sm as fun a => z ^ ((n : Int) - oddN (ringsN a)).toNat : Nat) : Int) := by
  unfold dyeS
  have key : ∀ (as : List (List Nat)) (t : Nat), as.foldl (fun t a => t + dyeT n (z : Int) a) (t : Int) = ((t + sm as fun a => z ^ ((n : Int) - oddN (ringsN a)).toNat : Nat) : Int) := by
    intro as
    induction as with
    | nil => intro t; rw [sm_nil, Nat.add_zero] <;> rfl
    | cons a l ih =>
      intro t
      rw [List.foldl_cons, sm_cons]
      have e : (t : Int) + dyeT n (z : Int) a = ((t + z ^ ((n : Int) - oddN (ringsN a)).toNat : Nat) : Int) := by
        unfold dyeT
        rw [Int.natCast_add, Int.natCast_pow]
      rw [e, ih, Nat.add_assoc]
  have := key as 0
  rw [Nat.zero_add] at this
  exact this
section
variable {B : Bk} {moves : List (List Nat)}
theorem enum_gen (C : Closed B moves) (hm : ∀ m ∈ moves, IsP B.n m) {a : List Nat} : a ∈ enumB B ↔ Gen B.n moves a := by
  constructor
  · intro h
    have s := (enumB_mem C.ok _).mp h
    have pa := s.isP C.ok
    exact (sifts_gen C hm pa).mp ((sifts_sk C.ok pa).mpr s)
  · intro g
    have pa := Gen.isP hm g
    exact (enumB_mem C.ok _).mpr ((sifts_sk C.ok pa).mp ((sifts_gen C hm pa).mpr g))
theorem enum_nd (C : Closed B moves) : (enumB B).Nodup := (enumB_lex C.ok).imp fun h e => by
  rw [e] at h
  exact LexLt.irrefl h
theorem many_lo (C : Closed B moves) (hm : ∀ m ∈ moves, IsP B.n m) {l : List (List Nat)} (nd : l.Nodup) (h : ∀ a ∈ l, Gen B.n moves a) : l.length ≤ manyB B := by
  rw [← enumB_len C.ok]
  exact nd_sub_len nd fun a ha => (enum_gen C hm).mpr (h a ha)
theorem many_hi (C : Closed B moves) (hm : ∀ m ∈ moves, IsP B.n m) {l : List (List Nat)} (h : ∀ a, Gen B.n moves a → a ∈ l) : manyB B ≤ l.length := by
  rw [← enumB_len C.ok]
  exact nd_sub_len (enum_nd C) fun a ha => h a ((enum_gen C hm).mp ha)
theorem many_fct (C : Closed B moves) (hm : ∀ m ∈ moves, IsP B.n m) : manyB B ≤ fct B.n := by
  rw [← permsF_len B.n (List.range B.n) List.length_range]
  exact many_hi C hm fun a g => permsF_mem _ _ a (Gen.isP hm g).len (Gen.isP hm g)
theorem many_p (C : Closed B moves) (hm : ∀ m ∈ moves, IsP B.n m) : 0 < manyB B := many_lo C hm (l := [List.range B.n]) (by simp) fun a ha => by rw [List.mem_singleton.mp ha]; exact .one
/-- how many are told apart: the least ones -/
theorem dye_count (C : Closed B moves) (hm : ∀ m ∈ moves, IsP B.n m) {z : Nat} (h1 : 1 ≤ B.n) (h4 : B.n ≤ 4) (z1 : 1 ≤ z) (z6 : z ≤ 6) (z3 : B.n = 4 → z ≤ 3) :
    dyeS B.n (z : Int) (enumB B) / (manyB B : Int) = ((((rowsZ z B.n).filter (minX (enumB B))).length : Nat) : Int) := by
  have b := (grp_enum C hm z1).burnside
  have e : sm (enumB B) (fun g => ((rowsZ z B.n).filter fun x => decide (jn g x = x)).length) = sm (enumB B) fun a => z ^ ((B.n : Int) - oddN (ringsN a)).toNat :=
    sm_congr fun a ha => fix_is h1 h4 z1 z6 z3 (Gen.isP hm ((enum_gen C hm).mp ha))
  rw [dyeS_sm, ← e, b, enumB_len C.ok, Int.natCast_mul]
  exact Int.mul_ediv_cancel _ (by have := many_p C hm; omega)
end
/-! ### nine seats: six and three -/
def emb (t a : List Nat) : List Nat := a ++ t
def m91 : List Nat := [1, 0, 2, 3, 4, 5, 6, 7, 8]
def m92 : List Nat := [1, 2, 3, 4, 5, 0, 6, 7, 8]
def m93 : List Nat := [0, 1, 2, 3, 4, 5, 7, 8, 6]
theorem jn_app (a b c : List Nat) : jn (a ++ b) c = jn a c ++ jn b c := List.map_append ..
theorem jn_appR {a b c : List Nat} (h : ∀ x ∈ a, x < b.length) : jn a (b ++ c) = jn a b := List.map_congr_left fun x hx => by
  rw [List.getD_eq_getElem?_getD, List.getD_eq_getElem?_getD, List.getElem?_append_left (h x hx)]
theorem emb_jn {a b : List Nat} (pa : IsP 6 a) (pb : IsP 6 b) : jn (a ++ [6, 7, 8]) (b ++ [6, 7, 8]) = jn a b ++ [6, 7, 8] := by
  rw [jn_app, jn_appR fun x hx => by rw [pb.len]; exact pa.lt hx]
  congr 1
  have g : ∀ k, k < 3 → (b ++ [6, 7, 8]).getD (6 + k) 0 = 6 + k := fun k hk => by
    rw [List.getD_eq_getElem?_getD, List.getElem?_append_right (by rw [pb.len]; omega), pb.len, show 6 + k - 6 = k by omega]
    match k, hk with
    | 0, _ => rfl
    | 1, _ => rfl
    | 2, _ => rfl
  show [(b ++ [6, 7, 8]).getD (6 + 0) 0, (b ++ [6, 7, 8]).getD (6 + 1) 0, (b ++ [6, 7, 8]).getD (6 + 2) 0] = _
  rw [g 0 (by decide), g 1 (by decide), g 2 (by decide)]
theorem emb_tl {a : List Nat} (pa : IsP 6 a) {t u : List Nat} (e : jn t m93 = u) : jn (a ++ t) m93 = a ++ u := by
  rw [jn_app, e]
  congr 1
  refine ext_getD (jn_len _ _) fun i hi => ?_
  rw [jn_len] at hi
  rw [jn_get hi]
  have lt : a.getD i 0 < 6 := pa.getD_lt (by rw [← pa.len]; exact hi)
  revert lt
  generalize a.getD i 0 = x
  intro lt
  match x, lt with
  | 0, _ => rfl
  | 1, _ => rfl
  | 2, _ => rfl
  | 3, _ => rfl
  | 4, _ => rfl
  | 5, _ => rfl
theorem nine_gen {moves : List (List Nat)} (h1 : m91 ∈ moves) (h2 : m92 ∈ moves) {a : List Nat} (pa : IsP 6 a) : Gen 9 moves (a ++ [6, 7, 8]) := by
  have hm : ∀ m ∈ [adj 6 0, cyc 6], IsP 6 m := fun m hm => by
    rcases List.mem_cons.mp hm with rfl | hm
    · exact isP_adj (by omega)
    · rw [List.mem_singleton.mp hm]; exact isP_cyc
  have g : Gen 6 [adj 6 0, cyc 6] a := gen_swcyc hm (by simp) (by simp) a pa
  clear pa
  induction g with
  | one => exact .one
  | @mul a m ga hmm ih =>
    have pm := hm m hmm
    rw [← emb_jn (Gen.isP hm ga) pm]
    refine .mul ih ?_
    rcases List.mem_cons.mp hmm with rfl | hmm
    · exact h1
    · rw [List.mem_singleton.mp hmm]; exact h2
theorem nine_many {B : Bk} {moves : List (List Nat)} (C : Closed B moves) (e : B.n = 9) (hm : ∀ m ∈ moves, IsP B.n m) (h1 : m91 ∈ moves) (h2 : m92 ∈ moves) (h3 : m93 ∈ moves) : 2000 < manyB B := by
  have P := permsF_len 6 (List.range 6) List.length_range
  have pp : ∀ a ∈ permsF 6 (List.range 6), IsP 6 a := fun a ha => permsF_perm 6 _ a List.length_range ha
  have pn : (permsF 6 (List.range 6)).Nodup := (permsF_lex _ _ List.length_range (range_lt _)).imp fun h e => by
    rw [e] at h
    exact LexLt.irrefl h
  have inj : ∀ t : List Nat, ((permsF 6 (List.range 6)).map fun a => a ++ t).Nodup := fun t => List.pairwise_map.mpr (pn.imp fun ne e => ne (List.append_cancel_right e))
  have dis : ∀ t u : List Nat, t ≠ u → t.length = u.length → ∀ x ∈ (permsF 6 (List.range 6)).map fun a => a ++ t, ∀ y ∈ (permsF 6 (List.range 6)).map fun a => a ++ u, x ≠ y := by
    intro t u ne hl x hx y hy e
    obtain ⟨a, ha, rfl⟩ := List.mem_map.mp hx
    obtain ⟨b, hb, rfl⟩ := List.mem_map.mp hy
    exact ne (List.append_inj_right e ((pp a ha).len.trans (pp b hb).len.symm))
  have lo := many_lo C hm (l := ((permsF 6 (List.range 6)).map fun a => a ++ [6, 7, 8]) ++ (((permsF 6 (List.range 6)).map fun a => a ++ [7, 8, 6]) ++ ((permsF 6 (List.range 6)).map fun a => a ++ [8, 6, 7]))) (by
    refine List.nodup_append.mpr ⟨inj _, List.nodup_append.mpr ⟨inj _, inj _, fun x hx y hy => dis [7, 8, 6] [8, 6, 7] (by decide) rfl x hx y hy⟩, fun x hx y hy => ?_⟩
    rcases List.mem_append.mp hy with hy | hy
    · exact dis [6, 7, 8] [7, 8, 6] (by decide) rfl x hx y hy
    · exact dis [6, 7, 8] [8, 6, 7] (by decide) rfl x hx y hy) (fun x hx => by
    rw [e]
    have t1 : jn [6, 7, 8] m93 = [7, 8, 6] := by decide
    have t2 : jn [7, 8, 6] m93 = [8, 6, 7] := by decide
    rcases List.mem_append.mp hx with hx | hx
    · obtain ⟨a, ha, rfl⟩ := List.mem_map.mp hx
      exact nine_gen h1 h2 (pp a ha)
    · rcases List.mem_append.mp hx with hx | hx
      · obtain ⟨a, ha, rfl⟩ := List.mem_map.mp hx
        show Gen 9 moves (a ++ [7, 8, 6])
        rw [← emb_tl (pp a ha) t1]
        exact .mul (nine_gen h1 h2 (pp a ha)) h3
      · obtain ⟨a, ha, rfl⟩ := List.mem_map.mp hx
        show Gen 9 moves (a ++ [8, 6, 7])
        rw [← emb_tl (pp a ha) t2, ← emb_tl (pp a ha) t1]
        exact .mul (.mul (nine_gen h1 h2 (pp a ha)) h3) h3)
  rw [List.length_append, List.length_append, List.length_map, List.length_map, List.length_map, P, show fct 6 = 720 by rfl] at lo
  omega
/-! ### fifteen seats: five, five, five -/
def af (u v : Nat) : List Nat := (List.range 5).map fun x => (u * x + v) % 5
def afs : List (List Nat) := [1, 2, 3, 4].flatMap fun u => (List.range 5).map fun v => af u v
def ats : List (List Nat) := (List.range 5).map fun v => af 1 v
def fr (p q r : List Nat) : List Nat := p ++ (q.map (5 + ·) ++ r.map (10 + ·))
def c5 : List Nat := [1, 2, 3, 4, 0]
def d5 : List Nat := [0, 2, 4, 1, 3]
def i5 : List Nat := [0, 1, 2, 3, 4]
theorem afs_c : ∀ p ∈ afs, jn p c5 ∈ afs := by decide
theorem afs_d : ∀ p ∈ afs, jn p d5 ∈ afs := by decide
theorem afs_i : ∀ p ∈ afs, jn p i5 = p := by decide
theorem ats_c : ∀ p ∈ ats, jn p c5 ∈ ats := by decide
theorem ats_i : ∀ p ∈ ats, jn p i5 = p := by decide
theorem afs_b : ∀ p ∈ afs, p.length = 5 ∧ ∀ x ∈ p, x < 5 := by decide
theorem ats_a : ∀ p ∈ ats, p ∈ afs := by decide
theorem fr_jn {p q r p' q' r' : List Nat} (h1 : ∀ x ∈ p, x < 5) (h2 : ∀ x ∈ q, x < 5) (h3 : ∀ x ∈ r, x < 5) (l1 : p'.length = 5) (l2 : q'.length = 5) (l3 : r'.length = 5) : jn (fr p q r) (fr p' q' r') = fr (jn p p') (jn q q') (jn r r') := by
  unfold fr
  rw [jn_app, jn_app, jn_appR (fun x hx => by rw [l1]; exact h1 x hx)]
  congr 1
  have g1 : ∀ x, x < 5 → (p' ++ (q'.map (5 + ·) ++ r'.map (10 + ·))).getD (5 + x) 0 = 5 + q'.getD x 0 := fun x hx => by
    rw [List.getD_eq_getElem?_getD, List.getElem?_append_right (by omega), l1, show 5 + x - 5 = x by omega, List.getElem?_append_left (by rw [List.length_map]; omega), List.getElem?_map, getD_at (by omega)] <;> rfl
  have g2 : ∀ x, x < 5 → (p' ++ (q'.map (5 + ·) ++ r'.map (10 + ·))).getD (10 + x) 0 = 10 + r'.getD x 0 := fun x hx => by
    rw [List.getD_eq_getElem?_getD, List.getElem?_append_right (by omega), l1, List.getElem?_append_right (by rw [List.length_map]; omega), List.length_map, l2, show 10 + x - 5 - 5 = x by omega, List.getElem?_map, getD_at (by omega)] <;> rfl
  congr 1
  · show (q.map (5 + ·)).map _ = (q.map _).map _
    rw [List.map_map, List.map_map]
    exact List.map_congr_left fun x hx => g1 x (h2 x hx)
  · show (r.map (10 + ·)).map _ = (r.map _).map _
    rw [List.map_map, List.map_map]
    exact List.map_congr_left fun x hx => g2 x (h3 x hx)
def l15 : List (List Nat) := afs.flatMap fun p => afs.flatMap fun q => ats.map fun r => fr p q r
theorem fr_mem {p q r : List Nat} (h1 : p ∈ afs) (h2 : q ∈ afs) (h3 : r ∈ ats) : fr p q r ∈ l15 := List.mem_flatMap.mpr ⟨p, h1, List.mem_flatMap.mpr ⟨q, h2, List.mem_map.mpr ⟨r, h3, rfl⟩⟩⟩
theorem l15_len : l15.length = 2000 := by
  have key : ∀ (l : List (List Nat)) (c : Nat) (f : List Nat → List (List Nat)), (∀ x, (f x).length = c) → (l.flatMap f).length = l.length * c := by
    intro l c f h
    induction l with
    | nil => rw [List.length_nil, Nat.zero_mul] <;> rfl
    | cons a l ih => rw [List.flatMap_cons, List.length_append, ih, h, List.length_cons, Nat.add_mul, Nat.one_mul, Nat.add_comm]
  have a20 : afs.length = 20 := by decide
  have t5 : ats.length = 5 := by decide
  unfold l15
  rw [key afs 100 _ fun p => by rw [key afs 5 _ fun q => by rw [List.length_map, t5], a20], a20]
def mv15 : List (List Nat) := [fr c5 i5 i5, fr d5 i5 i5, fr i5 c5 i5, fr i5 d5 i5, fr i5 i5 c5]
theorem gen15 {a : List Nat} (h : Gen 15 mv15 a) : ∃ p q r, p ∈ afs ∧ q ∈ afs ∧ r ∈ ats ∧ a = fr p q r := by
  induction h with
  | one => exact ⟨i5, i5, i5, by decide, by decide, by decide, by decide⟩
  | @mul a m _ hm ih =>
    obtain ⟨p, q, r, hp, hq, hr, rfl⟩ := ih
    have b1 := (afs_b p hp).2
    have b2 := (afs_b q hq).2
    have b3 := (afs_b r (ats_a r hr)).2
    have ip := afs_i p hp
    have iq := afs_i q hq
    have ir := ats_i r hr
    have S : ∀ {p' q' r' : List Nat}, m = fr p' q' r' → p'.length = 5 → q'.length = 5 → r'.length = 5 → jn p p' ∈ afs → jn q q' ∈ afs → jn r r' ∈ ats → ∃ p1 q1 r1, p1 ∈ afs ∧ q1 ∈ afs ∧ r1 ∈ ats ∧ jn (fr p q r) m = fr p1 q1 r1 := fun e l1 l2 l3 k1 k2 k3 => ⟨_, _, _, k1, k2, k3, by rw [e]; exact fr_jn b1 b2 b3 l1 l2 l3⟩
    have hm : m ∈ [fr c5 i5 i5, fr d5 i5 i5, fr i5 c5 i5, fr i5 d5 i5, fr i5 i5 c5] := hm
    simp only [List.mem_cons, List.not_mem_nil, or_false] at hm
    rcases hm with e | e | e | e | e
    · exact S e rfl rfl rfl (afs_c p hp) (by rw [iq]; exact hq) (by rw [ir]; exact hr)
    · exact S e rfl rfl rfl (afs_d p hp) (by rw [iq]; exact hq) (by rw [ir]; exact hr)
    · exact S e rfl rfl rfl (by rw [ip]; exact hp) (afs_c q hq) (by rw [ir]; exact hr)
    · exact S e rfl rfl rfl (by rw [ip]; exact hp) (afs_d q hq) (by rw [ir]; exact hr)
    · exact S e rfl rfl rfl (by rw [ip]; exact hp) (by rw [iq]; exact hq) (ats_c r hr)
theorem many15 {B : Bk} (C : Closed B mv15) (e : B.n = 15) (hm : ∀ m ∈ mv15, IsP B.n m) : manyB B ≤ 2000 := by
  rw [← l15_len]
  refine many_hi C hm fun a g => ?_
  rw [e] at g
  obtain ⟨p, q, r, hp, hq, hr, rfl⟩ := gen15 g
  exact fr_mem hp hq hr
theorem dyeS_1 (n : Nat) (as : List (List Nat)) : dyeS n 1 as = (as.length : Int) := by
  have := dyeS_sm n 1 as
  rw [sm_congr (g := fun _ => 1) fun a _ => Nat.one_pow _, sm_const, Nat.mul_one] at this
  exact this
/-! ### five seats, all reached -/
def dueA (z : Int) : Nat → Int
  | 0 => 1
  | k + 1 => dueA z k * (z + (k : Int)) / ((k : Int) + 1)
theorem five : ∀ z : Nat, z < 7 → 1 ≤ z → dyeS 5 (z : Int) (permsF 5 (List.range 5)) / 120 = dueA (z : Int) 5 := by decide +kernel
end Shf

/-! k19: its rooms walked -/
namespace Shf
open PySem L2
--@extra exm NoNumber RoomError
--@extra exm TooWide RoomError
--@extra isE NoNumber
--@extra isE TooWide
--@extra kit NoNumber NoNumber true
--@extra kit NoNumber TooWide false
--@extra kit TooWide NoNumber false
--@extra kit TooWide TooWide true
--@extra kitT NoNumber ValueError true
--@extra kitT TooWide ValueError true
--@facts k19:_law_refused m_NoNumber_RoomError m_TooWide_RoomError e_NoNumber e_TooWide k_NoNumber_NoNumber k_NoNumber_TooWide k_NoNumber_ValueError k_TooWide_NoNumber k_TooWide_TooWide k_TooWide_ValueError
def sp_L_refused_k19 (K : PySem.W.Frag) (g : Gd) : Sp := fun vs H Q _ => ∃ (R : RA) (B : Bk) (ms : List (List Nat)) (z : Int) (b : Bool), vs = [.ref R.r, .int z] ∧ RoomAt g H R B ms ∧ (b = true → ¬ (1 ≤ z ∧ z ≤ 6)) ∧ (b = false → 1 ≤ z ∧ z ≤ 6 ∧ 2000 < manyB B) ∧
  ∀ (r : Addr) (H' : Hp), Same H H' → H' r = some (.tup (vB [b, !b, true])) → Q (.ref r) H'
theorem len_L_refused_k19 (K : PySem.W.Frag) (g : Gd) (vs : List V) (H : Hp) (Q : VK) (E : XK) (h : sp_L_refused_k19 K g vs H Q E) : vs.length = 2 := by obtain ⟨_, _, _, _, _, rfl, _⟩ := h; rfl
abbrev N_L_refused_k19 : List Str := ["room", "dyes", "told", "e"]
/-- _law_refused -/
def t_L_refused_k19 (K : PySem.W.Frag) (g : Gd) (E : XK) : TS :=
  (tSeq (tAsg (tC .non) (gName 2))
    (tSeq (fun D σ H => (fun W => (tDrop (tCallS (sp_dyed K g) (WE W) (tCons (tVar 0) (tCons (tVar 1) tNil))))) (wAs K (.ref g.RoomError) 3 (fun a cls d => (tAsg (tTup (tCons (tCB (rIsE2 K cls d a) (tCons (tVar 3) (tCons (tC (.ref g.NoNumber)) tNil))) (tCons (tCB (rIsE2 K cls d a) (tCons (tVar 3) (tCons (tC (.ref g.TooWide)) tNil))) (tCons (tCB (rIsE2 K cls d a) (tCons (tVar 3) (tCons (tC (.ty "ValueError")) tNil))) tNil)))) (gName 2))) (wE E) D) D σ H)
    (tRet (tVar 2))))
theorem pure_L_refused_k19 {K : PySem.W.Frag} {g : Gd} (m1 : PySem.W.exmOne K (.ref g.NoNumber) (.ref g.RoomError) = some true) (m2 : PySem.W.exmOne K (.ref g.TooWide) (.ref g.RoomError) = some true)
    (x1 : ExcC K g.NoNumber) (x2 : ExcC K g.TooWide)
    (a1 : PySem.W.kitOne K (.ref g.NoNumber) (.ref g.NoNumber) = some true) (a2 : PySem.W.kitOne K (.ref g.NoNumber) (.ref g.TooWide) = some false) (a3 : PySem.W.kitOne K (.ref g.NoNumber) (.type "ValueError") = some true)
    (b1 : PySem.W.kitOne K (.ref g.TooWide) (.ref g.NoNumber) = some false) (b2 : PySem.W.kitOne K (.ref g.TooWide) (.ref g.TooWide) = some true) (b3 : PySem.W.kitOne K (.ref g.TooWide) (.type "ValueError") = some true)
    (vs : List V) (H : Hp) (Q : VK) (E : XK) (h : sp_L_refused_k19 K g vs H Q E) : Rd1 (t_L_refused_k19 K g E) N_L_refused_k19 vs H Q := by
  obtain ⟨R, B, ms, z, b, rfl, hR, hb1, hb2, k⟩ := h
  unfold t_L_refused_k19
  walk_at "rd"
  refine ⟨R, B, ms, z, rfl, hR, fun c => ?_, fun z1 z6 c => ?_, fun z1 z6 c => ?_⟩
  · have eb : b = true := by
      cases b with
      | true => rfl
      | false => exact absurd ⟨(hb2 rfl).1, (hb2 rfl).2.1⟩ c
    subst eb
    refine ⟨true, m1, fun _ ea hea => ?_, fun z => by cases z⟩
    walk_at "rd"
    refine is_E x1 a1 ?_
    walk_at "rd"
    refine is_E x1 a2 ?_
    walk_at "rd"
    refine is_ET x1 a3 ?_
    walk_at "rd"
    refine ⟨zl (by show 3 ≤ 100000; decide), fun r hr => ?_⟩
    walk_at "rd"
    exact k r _ ((Same.refl H).new hr) upd_same
  · have eb : b = false := by
      cases b with
      | true => exact absurd ⟨z1, z6⟩ (hb1 rfl)
      | false => rfl
    subst eb
    refine ⟨true, m2, fun _ ea hea => ?_, fun z => by cases z⟩
    walk_at "rd"
    refine is_E x2 b1 ?_
    walk_at "rd"
    refine is_E x2 b2 ?_
    walk_at "rd"
    refine is_ET x2 b3 ?_
    walk_at "rd"
    refine ⟨zl (by show 3 ≤ 100000; decide), fun r hr => ?_⟩
    walk_at "rd"
    exact k r _ ((Same.refl H).new hr) upd_same
  · cases b with
    | true => exact absurd ⟨z1, z6⟩ (hb1 rfl)
    | false => exact absurd (hb2 rfl).2.2 (by omega)
def sp_L_wide_k19 (K : PySem.W.Frag) (g : Gd) : Sp := fun vs H Q _ => ∃ c f : Int, vs = [.int c, .int f] ∧ 0 ≤ f ∧ ∀ H', Q (.bl true) H'
theorem len_L_wide_k19 (K : PySem.W.Frag) (g : Gd) (vs : List V) (H : Hp) (Q : VK) (E : XK) (h : sp_L_wide_k19 K g vs H Q E) : vs.length = 2 := by obtain ⟨_, _, rfl, _⟩ := h; rfl
abbrev N_L_wide_k19 : List Str := ["cell", "far", "room"]
/-- _law_wide -/
def t_L_wide_k19 (K : PySem.W.Frag) (g : Gd) (E : XK) : TS :=
  (tSeq (tAsg (tMakeS g.Room (sp_Room_init K g) (WE (wE E)) (tCons (tC (.int 9)) tNil)) (gName 2))
    (tSeq (tDrop (tMethS g.Room "put_move" (sp_Room_put_move K g) (WE (wE E)) (tVar 2) (tCons (tTup (tCons (tC (.int 1)) (tCons (tC (.int 0)) (tCons (tC (.int 2)) (tCons (tC (.int 3)) (tCons (tC (.int 4)) (tCons (tC (.int 5)) (tCons (tC (.int 6)) (tCons (tC (.int 7)) (tCons (tC (.int 8)) tNil)))))))))) tNil)))
    (tSeq (tDrop (tMethS g.Room "put_move" (sp_Room_put_move K g) (WE (wE E)) (tVar 2) (tCons (tTup (tCons (tC (.int 1)) (tCons (tC (.int 2)) (tCons (tC (.int 3)) (tCons (tC (.int 4)) (tCons (tC (.int 5)) (tCons (tC (.int 0)) (tCons (tC (.int 6)) (tCons (tC (.int 7)) (tCons (tC (.int 8)) tNil)))))))))) tNil)))
    (tSeq (tDrop (tMethS g.Room "put_move" (sp_Room_put_move K g) (WE (wE E)) (tVar 2) (tCons (tTup (tCons (tC (.int 0)) (tCons (tC (.int 1)) (tCons (tC (.int 2)) (tCons (tC (.int 3)) (tCons (tC (.int 4)) (tCons (tC (.int 5)) (tCons (tC (.int 7)) (tCons (tC (.int 8)) (tCons (tC (.int 6)) tNil)))))))))) tNil)))
    (tSeq (tIfS (tTest (tOp (rNeD K) (tCallS (sp_L_refused_k19 K g) (fun _ => E0) (tCons (tVar 2) (tCons (tOp rAddI (tC (.int 7)) (tVar 1)) tNil))) (tTup (tCons (tC (.bl true)) (tCons (tC (.bl false)) (tCons (tC (.bl true)) tNil)))))) (tRet (tC (.bl false))) tNext)
    (tRet (tOp (rEqD K) (tCallS (sp_L_refused_k19 K g) (fun _ => E0) (tCons (tVar 2) (tCons (tOp rAddI (tC (.int 1)) (tOp rModI (tVar 0) (tC (.int 6)))) tNil))) (tTup (tCons (tC (.bl false)) (tCons (tC (.bl true)) (tCons (tC (.bl true)) tNil)))))))))))
theorem pure_L_wide_k19 {K : PySem.W.Frag} {g : Gd} (vs : List V) (H : Hp) (Q : VK) (E : XK) (h : sp_L_wide_k19 K g vs H Q E) : Rd1 (t_L_wide_k19 K g E) N_L_wide_k19 vs H Q := by
  obtain ⟨c, f, rfl, hf, k⟩ := h
  unfold t_L_wide_k19
  walk_at "rd"
  refine make_room (n := 9) (by decide) (by decide) fun R H1 s1 hR fr => ?_
  walk_at "rd"
  refine hR.inst (by rfl) ?_
  walk_at "rd"
  refine ⟨zl (by show 9 ≤ 100000; decide), fun p hp => ?_⟩
  walk_at "rd"
  refine put_ok (a := m91) (hR.same ((Same.refl H1).new hp)) upd_same (by show IsP 9 _; unfold IsP; decide) (by decide) fun H2 B2 hR2 b2 e2 _ => ?_
  have e2 : B2.n = 9 := e2
  walk_at "rd"
  refine hR2.inst (by rfl) ?_
  walk_at "rd"
  refine ⟨zl (by show 9 ≤ 100000; decide), fun p2 hp2 => ?_⟩
  walk_at "rd"
  refine put_ok (a := m92) (hR2.same ((Same.refl H2).new hp2)) upd_same (by rw [e2]; unfold IsP; decide) (by decide) fun H3 B3 hR3 b3 e3 _ => ?_
  have e3 : B3.n = 9 := e3.trans e2
  walk_at "rd"
  refine hR3.inst (by rfl) ?_
  walk_at "rd"
  refine ⟨zl (by show 9 ≤ 100000; decide), fun p3 hp3 => ?_⟩
  walk_at "rd"
  refine put_ok (a := m93) (hR3.same ((Same.refl H3).new hp3)) upd_same (by rw [e3]; unfold IsP; decide) (by decide) fun H4 B4 hR4 b4 e4 _ => ?_
  have e4 : B4.n = 9 := e4.trans e3
  have hm := nine_many hR4.cl e4 hR4.mp (by simp) (by simp) (by simp)
  generalize [] ++ [m91] ++ [m92] ++ [m93] = ms at *
  walk_at "rd"
  refine ⟨R, B4, ms, _, true, rfl, hR4, fun _ => by omega, (fun c => by cases c), fun r H5 s5 hr => ?_⟩
  walk_at "rd"
  refine ⟨zl (by show 3 ≤ 100000; decide), fun r2 hr2 => ?_⟩
  refine ne_TB (a := [true, false, true]) (b := [true, false, true]) (sqT (by rw [upd_ne (ne_of_none hr hr2)]; exact hr)) (sqT upd_same) ?_
  have s6 := s5.new (o := .tup [V.bl true, V.bl false, V.bl true]) hr2
  have hR6 := hR4.same s6
  show _
  walk_at "ex"
  rw [decide_eq_true rfl]
  refine if_f rfl ?_
  generalize upd H5 r2 (.tup _) = H6 at *
  walk_at "rd"
  refine mod_I (by decide) ?_
  walk_at "rd"
  refine ⟨R, B4, ms, _, false, rfl, hR6, (fun c => by cases c), fun _ => ⟨by omega, by omega, hm⟩, fun r H7 s7 hr => ?_⟩
  walk_at "rd"
  refine ⟨zl (by show 3 ≤ 100000; decide), fun r2 hr2 => ?_⟩
  refine eq_TB (a := [false, true, true]) (b := [false, true, true]) (sqT (by rw [upd_ne (ne_of_none hr hr2)]; exact hr)) (sqT upd_same) ?_
  rw [decide_eq_true rfl]
  exact k _
def sp_L_all_alike (K : PySem.W.Frag) (g : Gd) : Sp := fun vs H Q _ => ∃ z : Nat, vs = [.int ((5 : Nat) : Int), .int (z : Int)] ∧ 1 ≤ z ∧ z ≤ 6 ∧ ∀ H', Q (.bl true) H'
theorem len_L_all_alike (K : PySem.W.Frag) (g : Gd) (vs : List V) (H : Hp) (Q : VK) (E : XK) (h : sp_L_all_alike K g vs H Q E) : vs.length = 2 := by obtain ⟨_, rfl, _⟩ := h; rfl
abbrev N_L_all_alike : List Str := ["size", "dyes", "room", "due", "k", "found"]
/-- _law_all_alike -/
def t_L_all_alike (K : PySem.W.Frag) (g : Gd) (E : XK) : TS :=
  (tSeq (tAsg (tMakeS g.Room (sp_Room_init K g) (WE (wE E)) (tCons (tVar 0) tNil)) (gName 2))
    (tSeq (tDrop (tMethS g.Room "put_move" (sp_Room_put_move K g) (WE (wE E)) (tVar 2) (tCons (tCB (rTupOf K) (tCons (tOp rCat (tLst (tCons (tC (.int 1)) (tCons (tC (.int 0)) tNil))) (tLstRg (tRg2 (tC (.int 2)) (tVar 0)))) tNil)) tNil)))
    (tSeq (tDrop (tMethS g.Room "put_move" (sp_Room_put_move K g) (WE (wE E)) (tVar 2) (tCons (tCB (rTupOf K) (tCons (tOp rCat (tLstRg (tRg2 (tC (.int 1)) (tVar 0))) (tLst (tCons (tC (.int 0)) tNil))) tNil)) tNil)))
    (tSeq (tAsg (tC (.int 1)) (gName 3))
    (tSeq (tFor (iRng1 (tCons (tVar 0) tNil)) (gName 4) (tAsg (tOp rDivI (tOp rMulI (tVar 3) (tOp rAddI (tVar 1) (tVar 4))) (tOp rAddI (tVar 4) (tC (.int 1)))) (gName 3)))
    (tSeq (tAsg (tCallS (sp_dyed K g) (WE (wE E)) (tCons (tVar 2) (tCons (tVar 1) tNil))) (gName 5))
    (tRet (tAndV (tCallS (sp_L_whole K g) (fun _ => E0) (tCons (tVar 5) tNil)) (tOp rEq (tVar 5) (tVar 3))))))))))
theorem pure_L_all_alike {K : PySem.W.Frag} {g : Gd} (vs : List V) (H : Hp) (Q : VK) (E : XK) (h : sp_L_all_alike K g vs H Q E) : Rd1 (t_L_all_alike K g E) N_L_all_alike vs H Q := by
  obtain ⟨z, rfl, z1, z6, k⟩ := h
  unfold t_L_all_alike
  walk_at "re"
  walk_at "sq"
  walk_at "re"
  refine make_room (n := 5) (by decide) (by decide) fun R H1 s1 hR fr => ?_
  walk_at "re"
  walk_at "sq"
  walk_at "st"
  refine w_meth ?_
  walk_at "re"
  refine hR.inst (by rfl) ?_
  refine w_cons ?_
  refine swap_arg (n := 5) (by rfl) (by decide) (by decide) fun q1 H2 s2 hq1 => ?_
  walk_at "re"
  refine put_ok (hR.same s2) hq1 (isP_adj (by show 0 + 1 < 5; decide)) (by show 0 < 200; decide) fun H3 B3 hR3 b3 e3 _ => ?_
  have e3 : B3.n = 5 := e3
  walk_at "re"
  walk_at "sq"
  walk_at "st"
  refine w_meth ?_
  walk_at "re"
  refine hR3.inst (by rfl) ?_
  refine w_cons ?_
  refine ring_arg (n := 5) (by rfl) (by decide) (by decide) fun q2 H4 s4 hq2 => ?_
  walk_at "re"
  refine put_ok (hR3.same s4) hq2 (by rw [e3]; exact isP_cyc) (by show 1 < 200; decide) fun H5 B hRB b5 e5 _ => ?_
  have e5 : B.n = 5 := by rw [e5, e3]
  have gAll : ∀ a, IsP B.n a → Gen B.n ([] ++ [adj 5 0] ++ [cyc 5]) a := by rw [e5]; exact swcyc_gen (n := 5) (by decide)
  generalize [] ++ [adj 5 0] ++ [cyc 5] = ms at *
  have hen := enum_all hRB.cl hRB.mp gAll
  have hmany := many_all hRB.cl hRB.mp gAll
  rw [e5] at hen hmany
  rw [show fct 5 = 120 by rfl] at hmany
  walk_at "re"
  walk_at "sq"
  walk_at "re"
  walk_at "sq"
  walk_at "st"
  walk_at "ex"
  refine w_for1 (n := 5) (by decide) (fun i σ H' => (∃ y, σ = [some (.int ((5 : Nat) : Int)), some (.int (z : Int)), some (.ref R.r), some (.int (dueA (z : Int) i)), y, none]) ∧ H' = H5) ⟨⟨_, rfl⟩, rfl⟩ ?_ ?_
  · rintro i σ H' hi ⟨⟨y, rfl⟩, rfl⟩
    walk_at "rd"
    refine mul_I (.inr ⟨by omega, by omega⟩) ?_
    walk_at "rd"
    refine div_I (by omega) (by omega) ?_
    walk_at "rd"
    exact ⟨⟨some (.int (i : Int)), rfl⟩, rfl⟩
  · rintro σ H' ⟨⟨y, rfl⟩, rfl⟩
    walk_at "rd"
    refine ⟨R, B, ms, _, rfl, hRB, fun c => absurd (by omega) c, fun _ _ c => absurd c (by omega), fun _ _ _ H6 s6 => ?_⟩
    rw [hen, e5, hmany, show ((120 : Nat) : Int) = 120 by rfl, five z (by omega) z1]
    walk_at "rd"
    refine ⟨_, rfl, true, rfl, if_t rfl ?_⟩
    walk_at "ex"
    rw [decide_eq_true rfl]
    exact k _
theorem w_sl19 {r : V → Option Int → Option Int → Hp → VK → Prop} {te : TE} {tl th : TO} {σ : L2.St} {H : Hp} {Q : VK} (h : te σ H fun x H1 => tl σ H1 fun l H2 => th σ H2 fun u H3 => r x l u H3 Q) : L2.tSl r te tl th σ H Q := h
section
variable {K : PySem.W.Frag} {H : Hp} {Q : VK} {σ : L2.St} {b : Addr} {x1 x2 x3 x4 x5 : Int} {L : List Nat}
theorem just_a (hσ : σ[1]? = some (some (.ref b))) (hb : H b = some (.lst (vN (List.range 15)))) (eL : [V.int x1, V.int x2, V.int x3, V.int x4, V.int x5] ++ cutV (vN (List.range 15)) (some 5) none = vN L) (hL : L.length ≤ 1000) (k : ∀ p H', Same H H' → H' p = some (.tup (vN L)) → Q (.ref p) H') :
    (tCB (rTupOf K) (tCons (tOp rCat (tLst (tCons (tC (.int x1)) (tCons (tC (.int x2)) (tCons (tC (.int x3)) (tCons (tC (.int x4)) (tCons (tC (.int x5)) tNil)))))) (tSl (rSlL K) (tVar 1) (tPart (tC (.int 5))) tNoPart)) tNil)) σ H Q := by
  have hlen := congrArg List.length eL
  rw [List.length_append, vN_len] at hlen
  walk_at "rd"
  refine ⟨zl (by show 5 ≤ 100000; decide), fun p1 hp1 => ?_⟩
  walk_at "rd"
  refine w_sl19 ?_
  refine w_var hσ ?_
  refine ⟨5, rfl, ?_⟩
  have s1 := (Same.refl H).new (o := .lst [V.int x1, V.int x2, V.int x3, V.int x4, V.int x5]) hp1
  refine ⟨b, _, rfl, sqL (s1 _ _ hb), fun p2 hp2 => ?_⟩
  refine ⟨p1, p2, _, _, rfl, rfl, by rw [upd_ne (ne_of_none upd_same hp2)]; exact upd_same, upd_same, zl (by omega), fun p3 hp3 => ?_⟩
  rw [eL]
  walk_at "rd"
  refine tup_L (sqL upd_same) fun p4 hp4 => ?_
  exact k p4 _ (((s1.new hp2).new hp3).new hp4) upd_same
theorem just_b (hσ : σ[1]? = some (some (.ref b))) (hb : H b = some (.lst (vN (List.range 15)))) (eL : (cutV (vN (List.range 15)) none (some 5) ++ [V.int x1, V.int x2, V.int x3, V.int x4, V.int x5]) ++ cutV (vN (List.range 15)) (some 10) none = vN L) (hL : L.length ≤ 1000) (k : ∀ p H', Same H H' → H' p = some (.tup (vN L)) → Q (.ref p) H') :
    (tCB (rTupOf K) (tCons (tOp rCat (tOp rCat (tSl (rSlL K) (tVar 1) tNoPart (tPart (tC (.int 5)))) (tLst (tCons (tC (.int x1)) (tCons (tC (.int x2)) (tCons (tC (.int x3)) (tCons (tC (.int x4)) (tCons (tC (.int x5)) tNil))))))) (tSl (rSlL K) (tVar 1) (tPart (tC (.int 10))) tNoPart)) tNil)) σ H Q := by
  have hlen := congrArg List.length eL
  rw [List.length_append, List.length_append, vN_len] at hlen
  walk_at "rd"
  refine w_sl19 ?_
  refine w_var hσ ?_
  refine ⟨5, rfl, ?_⟩
  refine ⟨b, _, rfl, sqL hb, fun p1 hp1 => ?_⟩
  have s1 := (Same.refl H).new (o := .lst (cutV (vN (List.range 15)) none (some 5))) hp1
  walk_at "rd"
  refine ⟨zl (by show 5 ≤ 100000; decide), fun p2 hp2 => ?_⟩
  have s2 := s1.new (o := .lst [V.int x1, V.int x2, V.int x3, V.int x4, V.int x5]) hp2
  refine ⟨p1, p2, _, _, rfl, rfl, by rw [upd_ne (ne_of_none upd_same hp2)]; exact upd_same, upd_same, zl (by omega), fun p3 hp3 => ?_⟩
  have s3 := s2.new (o := .lst (cutV (vN (List.range 15)) none (some 5) ++ [V.int x1, V.int x2, V.int x3, V.int x4, V.int x5])) hp3
  walk_at "rd"
  refine w_sl19 ?_
  refine w_var hσ ?_
  refine ⟨10, rfl, ?_⟩
  refine ⟨b, _, rfl, sqL (s3 _ _ hb), fun p4 hp4 => ?_⟩
  refine ⟨p3, p4, _, _, rfl, rfl, by rw [upd_ne (ne_of_none upd_same hp4)]; exact upd_same, upd_same, zl (by rw [List.length_append]; omega), fun p5 hp5 => ?_⟩
  rw [eL]
  walk_at "rd"
  refine tup_L (sqL upd_same) fun p6 hp6 => ?_
  exact k p6 _ (((s3.new hp4).new hp5).new hp6) upd_same
theorem just_c (hσ : σ[1]? = some (some (.ref b))) (hb : H b = some (.lst (vN (List.range 15)))) (eL : cutV (vN (List.range 15)) none (some 10) ++ [V.int x1, V.int x2, V.int x3, V.int x4, V.int x5] = vN L) (hL : L.length ≤ 1000) (k : ∀ p H', Same H H' → H' p = some (.tup (vN L)) → Q (.ref p) H') :
    (tCB (rTupOf K) (tCons (tOp rCat (tSl (rSlL K) (tVar 1) tNoPart (tPart (tC (.int 10)))) (tLst (tCons (tC (.int x1)) (tCons (tC (.int x2)) (tCons (tC (.int x3)) (tCons (tC (.int x4)) (tCons (tC (.int x5)) tNil))))))) tNil)) σ H Q := by
  have hlen := congrArg List.length eL
  rw [List.length_append, vN_len] at hlen
  walk_at "rd"
  refine w_sl19 ?_
  refine w_var hσ ?_
  refine ⟨10, rfl, ?_⟩
  refine ⟨b, _, rfl, sqL hb, fun p1 hp1 => ?_⟩
  have s1 := (Same.refl H).new (o := .lst (cutV (vN (List.range 15)) none (some 10))) hp1
  walk_at "rd"
  refine ⟨zl (by show 5 ≤ 100000; decide), fun p2 hp2 => ?_⟩
  have s2 := s1.new (o := .lst [V.int x1, V.int x2, V.int x3, V.int x4, V.int x5]) hp2
  refine ⟨p1, p2, _, _, rfl, rfl, by rw [upd_ne (ne_of_none upd_same hp2)]; exact upd_same, upd_same, zl (by omega), fun p3 hp3 => ?_⟩
  rw [eL]
  walk_at "rd"
  refine tup_L (sqL upd_same) fun p4 hp4 => ?_
  exact k p4 _ ((s2.new hp3).new hp4) upd_same
end
def sp_L_just (K : PySem.W.Frag) (g : Gd) : Sp := fun vs H Q _ => vs = [] ∧ ∀ H', Q (.bl true) H'
theorem len_L_just (K : PySem.W.Frag) (g : Gd) (vs : List V) (H : Hp) (Q : VK) (E : XK) (h : sp_L_just K g vs H Q E) : vs.length = 0 := by obtain ⟨rfl, _⟩ := h; rfl
abbrev N_L_just : List Str := ["room", "rest_of", "found"]
/-- _law_just -/
def t_L_just (K : PySem.W.Frag) (g : Gd) (E : XK) : TS :=
  (tSeq (tAsg (tMakeS g.Room (sp_Room_init K g) (WE (wE E)) (tCons (tC (.int 15)) tNil)) (gName 0))
    (tSeq (tAsg (tLstRg (tRg1 (tC (.int 15)))) (gName 1))
    (tSeq (tDrop (tMethS g.Room "put_move" (sp_Room_put_move K g) (WE (wE E)) (tVar 0) (tCons (tCB (rTupOf K) (tCons (tOp rCat (tLst (tCons (tC (.int 1)) (tCons (tC (.int 2)) (tCons (tC (.int 3)) (tCons (tC (.int 4)) (tCons (tC (.int 0)) tNil)))))) (tSl (rSlL K) (tVar 1) (tPart (tC (.int 5))) tNoPart)) tNil)) tNil)))
    (tSeq (tDrop (tMethS g.Room "put_move" (sp_Room_put_move K g) (WE (wE E)) (tVar 0) (tCons (tCB (rTupOf K) (tCons (tOp rCat (tLst (tCons (tC (.int 0)) (tCons (tC (.int 2)) (tCons (tC (.int 4)) (tCons (tC (.int 1)) (tCons (tC (.int 3)) tNil)))))) (tSl (rSlL K) (tVar 1) (tPart (tC (.int 5))) tNoPart)) tNil)) tNil)))
    (tSeq (tDrop (tMethS g.Room "put_move" (sp_Room_put_move K g) (WE (wE E)) (tVar 0) (tCons (tCB (rTupOf K) (tCons (tOp rCat (tOp rCat (tSl (rSlL K) (tVar 1) tNoPart (tPart (tC (.int 5)))) (tLst (tCons (tC (.int 6)) (tCons (tC (.int 7)) (tCons (tC (.int 8)) (tCons (tC (.int 9)) (tCons (tC (.int 5)) tNil))))))) (tSl (rSlL K) (tVar 1) (tPart (tC (.int 10))) tNoPart)) tNil)) tNil)))
    (tSeq (tDrop (tMethS g.Room "put_move" (sp_Room_put_move K g) (WE (wE E)) (tVar 0) (tCons (tCB (rTupOf K) (tCons (tOp rCat (tOp rCat (tSl (rSlL K) (tVar 1) tNoPart (tPart (tC (.int 5)))) (tLst (tCons (tC (.int 5)) (tCons (tC (.int 7)) (tCons (tC (.int 9)) (tCons (tC (.int 6)) (tCons (tC (.int 8)) tNil))))))) (tSl (rSlL K) (tVar 1) (tPart (tC (.int 10))) tNoPart)) tNil)) tNil)))
    (tSeq (tDrop (tMethS g.Room "put_move" (sp_Room_put_move K g) (WE (wE E)) (tVar 0) (tCons (tCB (rTupOf K) (tCons (tOp rCat (tSl (rSlL K) (tVar 1) tNoPart (tPart (tC (.int 10)))) (tLst (tCons (tC (.int 11)) (tCons (tC (.int 12)) (tCons (tC (.int 13)) (tCons (tC (.int 14)) (tCons (tC (.int 10)) tNil))))))) tNil)) tNil)))
    (tSeq (tAsg (tCallS (sp_dyed K g) (WE (wE E)) (tCons (tVar 0) (tCons (tC (.int 1)) tNil))) (gName 2))
    (tRet (tAndV (tCallS (sp_L_whole K g) (fun _ => E0) (tCons (tVar 2) tNil)) (tOp rEq (tVar 2) (tC (.int 1)))))))))))))
theorem pure_L_just {K : PySem.W.Frag} {g : Gd} (vs : List V) (H : Hp) (Q : VK) (E : XK) (h : sp_L_just K g vs H Q E) : Rd1 (t_L_just K g E) N_L_just vs H Q := by
  obtain ⟨rfl, k⟩ := h
  unfold t_L_just
  walk_at "re"
  walk_at "sq"
  walk_at "re"
  refine make_room (n := 15) (by decide) (by decide) fun R H1 s1 hR _ => ?_
  walk_at "re"
  walk_at "sq"
  walk_at "re"
  refine ⟨rgOk_N (n := 15) (by decide), fun b hb => ?_⟩
  have hbG : b ∉ R.G := hR.nin hb
  have e15 : rgV 0 15 = vN (List.range 15) := by rfl
  rw [e15]
  have hR0 := hR.same ((Same.refl H1).new (o := .lst (vN (List.range 15))) hb)
  have hb0 : (upd H1 b (.lst (vN (List.range 15)))) b = some (.lst (vN (List.range 15))) := upd_same
  generalize upd H1 b (.lst (vN (List.range 15))) = H2 at *
  clear hR hb
  walk_at "re"
  walk_at "sq"
  walk_at "st"
  refine w_meth ?_
  walk_at "re"
  refine hR0.inst (by rfl) ?_
  refine w_cons ?_
  refine just_a (L := fr c5 i5 i5) (by rfl) hb0 (by rfl) (by decide) fun q1 H3 s3 hq1 => ?_
  walk_at "re"
  refine put_ok (hR0.same s3) hq1 (by show IsP 15 _; unfold IsP; decide) (by decide) fun H4 B1 hR1 b1 e1 _ => ?_
  have e1 : B1.n = 15 := e1
  have hb1 := b1.s _ _ (s3 _ _ hb0) fun z => hbG (R.fg _ z)
  walk_at "re"
  walk_at "sq"
  walk_at "st"
  refine w_meth ?_
  walk_at "re"
  refine hR1.inst (by rfl) ?_
  refine w_cons ?_
  refine just_a (L := fr d5 i5 i5) (by rfl) hb1 (by rfl) (by decide) fun q2 H5 s5 hq2 => ?_
  walk_at "re"
  refine put_ok (hR1.same s5) hq2 (by rw [e1]; unfold IsP; decide) (by decide) fun H6 B2 hR2 b2 e2 _ => ?_
  have e2 : B2.n = 15 := e2.trans e1
  have hb2 := b2.s _ _ (s5 _ _ hb1) fun z => hbG (R.fg _ z)
  walk_at "re"
  walk_at "sq"
  walk_at "st"
  refine w_meth ?_
  walk_at "re"
  refine hR2.inst (by rfl) ?_
  refine w_cons ?_
  refine just_b (L := fr i5 c5 i5) (by rfl) hb2 (by rfl) (by decide) fun q3 H7 s7 hq3 => ?_
  walk_at "re"
  refine put_ok (hR2.same s7) hq3 (by rw [e2]; unfold IsP; decide) (by decide) fun H8 B3 hR3 b3 e3 _ => ?_
  have e3 : B3.n = 15 := e3.trans e2
  have hb3 := b3.s _ _ (s7 _ _ hb2) fun z => hbG (R.fg _ z)
  walk_at "re"
  walk_at "sq"
  walk_at "st"
  refine w_meth ?_
  walk_at "re"
  refine hR3.inst (by rfl) ?_
  refine w_cons ?_
  refine just_b (L := fr i5 d5 i5) (by rfl) hb3 (by rfl) (by decide) fun q4 H9 s9 hq4 => ?_
  walk_at "re"
  refine put_ok (hR3.same s9) hq4 (by rw [e3]; unfold IsP; decide) (by decide) fun H10 B4 hR4 b4 e4 _ => ?_
  have e4 : B4.n = 15 := e4.trans e3
  have hb4 := b4.s _ _ (s9 _ _ hb3) fun z => hbG (R.fg _ z)
  walk_at "re"
  walk_at "sq"
  walk_at "st"
  refine w_meth ?_
  walk_at "re"
  refine hR4.inst (by rfl) ?_
  refine w_cons ?_
  refine just_c (L := fr i5 i5 c5) (by rfl) hb4 (by rfl) (by decide) fun q5 H11 s11 hq5 => ?_
  walk_at "re"
  refine put_ok (hR4.same s11) hq5 (by rw [e4]; unfold IsP; decide) (by decide) fun H12 B hRB b5 e5 _ => ?_
  have e5 : B.n = 15 := e5.trans e4
  have hRB : RoomAt g H12 R B mv15 := hRB
  have hmany := many15 hRB.cl e5 hRB.mp
  have hpos := many_p hRB.cl hRB.mp
  walk_at "rd"
  refine ⟨R, B, mv15, _, rfl, hRB, fun c => absurd (by decide) c, fun _ _ c => absurd c (by omega), fun _ _ _ H13 s13 => ?_⟩
  rw [dyeS_1, enumB_len hRB.cl.ok, Int.ediv_self (by omega)]
  walk_at "rd"
  refine ⟨_, rfl, true, rfl, if_t rfl ?_⟩
  walk_at "ex"
  exact k _
end Shf

/-! law k19 -/
namespace Shf
open PySem L2
/-- dyed, of a small room, asked rightly -/
theorem dyed_ok {K : PySem.W.Frag} {g : Gd} {H : Hp} {Q : VK} {E : XK} {R : RA} {B : Bk} {ms : List (List Nat)} (hR : RoomAt g H R B ms) {z : Nat} (h4 : B.n ≤ 4) (z1 : 1 ≤ z) (z6 : z ≤ 6) (z3 : B.n = 4 → z ≤ 3)
    (k : ∀ H', Same H H' → Q (.int ((((rowsZ z B.n).filter (minX (enumB B))).length : Nat) : Int)) H') : sp_dyed K g [.ref R.r, .int (z : Int)] H Q E := by
  have hm := many_fct hR.cl hR.mp
  have n1 := hR.n1
  have hf : fct B.n ≤ 24 := by
    revert n1 h4
    generalize B.n = n
    intro n1 h4
    match n, n1, h4 with
    | 1, _, _ => decide
    | 2, _, _ => decide
    | 3, _, _ => decide
    | 4, _, _ => decide
  refine ⟨R, B, ms, _, rfl, hR, fun c => absurd (by omega) c, fun _ _ c => absurd c (by omega), fun _ _ _ H' s => ?_⟩
  rw [dye_count hR.cl hR.mp n1 h4 z1 z6 z3]
  exact k H' s
abbrev N_law_k19 : List Str := ["script", "size", "dyes", "far", "way", "room", "moves", "k", "wrong", "found"]
/-- law -/
def t_law_k19 (K : PySem.W.Frag) (g : Gd) (E : XK) : TS :=
  (tSeq (tAsg (tOp rAddI (tC (.int 1)) (tOp rModI (tCallS (sp_L_cell_at K g) (fun _ => E0) (tCons (tVar 0) (tCons (tC (.int 0)) tNil))) (tC (.int 4)))) (gName 1))
    (tSeq (tAsg (tOp rAddI (tC (.int 1)) (tOp rModI (tOp rDivI (tCallS (sp_L_cell_at K g) (fun _ => E0) (tCons (tVar 0) (tCons (tC (.int 0)) tNil))) (tC (.int 4))) (tC (.int 3)))) (gName 2))
    (tSeq (tIfS (tTest (tOp rLtI (tVar 1) (tC (.int 4)))) (tAsg (tOp rAddI (tC (.int 1)) (tOp rModI (tOp rDivI (tCallS (sp_L_cell_at K g) (fun _ => E0) (tCons (tVar 0) (tCons (tC (.int 0)) tNil))) (tC (.int 4))) (tC (.int 6)))) (gName 2)) tNext)
    (tSeq (tAsg (tOp rModI (tCallS (sp_L_cell_at K g) (fun _ => E0) (tCons (tVar 0) (tCons (tC (.int 5)) tNil))) (tOp rPowI (tC (.int 10)) (tC (.int 59)))) (gName 3))
    (tSeq (tAsg (tOp rModI (tOp rDivI (tCallS (sp_L_cell_at K g) (fun _ => E0) (tCons (tVar 0) (tCons (tC (.int 1)) tNil))) (tC (.int 4))) (tC (.int 16))) (gName 4))
    (tSeq (tIfS (tTest (tOp rEq (tVar 4) (tC (.int 1)))) (tRet (tCallS (sp_L_wide_k19 K g) (WE (wE E)) (tCons (tCallS (sp_L_cell_at K g) (fun _ => E0) (tCons (tVar 0) (tCons (tC (.int 0)) tNil))) (tCons (tVar 3) tNil)))) tNext)
    (tSeq (tIfS (tAnd (tTest (tOp rEq (tVar 4) (tC (.int 4)))) (tTest (tOp rEq (tOp rModI (tCallS (sp_L_cell_at K g) (fun _ => E0) (tCons (tVar 0) (tCons (tC (.int 0)) tNil))) (tC (.int 4))) (tC (.int 1))))) (tRet (tCallS (sp_L_just K g) (WE (wE E)) tNil)) tNext)
    (tSeq (tIfS (tOr (tTest (tOp rEq (tVar 4) (tC (.int 2)))) (tTest (tOp rEq (tVar 4) (tC (.int 3))))) (tRet (tCallS (sp_L_all_alike K g) (WE (wE E)) (tCons (tC (.int 5)) (tCons (tOp rAddI (tC (.int 1)) (tOp rModI (tCallS (sp_L_cell_at K g) (fun _ => E0) (tCons (tVar 0) (tCons (tC (.int 0)) tNil))) (tC (.int 6)))) tNil)))) tNext)
    (tSeq (tAsg (tMakeS g.Room (sp_Room_init K g) (WE (wE E)) (tCons (tVar 1) tNil)) (gName 5))
    (tSeq (tAsg (tLst tNil) (gName 6))
    (tSeq (tIfS (tTest (tOp rNe (tCallS (sp_dyed K g) (WE (wE E)) (tCons (tVar 5) (tCons (tVar 2) tNil))) (tCallS (sp_L_counted K g) (fun _ => E0) (tCons (tLst (tCons (tTupRg (tRg1 (tVar 1))) tNil)) (tCons (tVar 2) (tCons (tVar 1) tNil)))))) (tRet (tC (.bl false))) tNext)
    (tSeq (tFor (iRng1 (tCons (tOp rModI (tCallS (sp_L_cell_at K g) (fun _ => E0) (tCons (tVar 0) (tCons (tC (.int 1)) tNil))) (tC (.int 4))) tNil)) (gName 7) (tSeq (tDrop (tBM K "list" rAppend (tVar 6) (tCons (tCallS (sp_L_seating K g) (fun _ => E0) (tCons (tCallS (sp_L_cell_at K g) (fun _ => E0) (tCons (tVar 0) (tCons (tOp rAddI (tC (.int 2)) (tVar 7)) tNil))) (tCons (tVar 1) tNil))) tNil)))
    (tDrop (tMethS g.Room "put_move" (sp_Room_put_move K g) (WE (wE E)) (tVar 5) (tCons (tOp (rIxL K) (tVar 6) (tUn (rU fun i => .int (-i)) (tC (.int 1)))) tNil)))))
    (tSeq (tFor (iList K (tLst (tCons (tC (.int 0)) (tCons (tC (.int 7)) (tCons (tOp rAddI (tC (.int 7)) (tVar 3)) (tCons (tOp rSubI (tUn (rU fun i => .int (-i)) (tC (.int 1))) (tVar 3)) tNil)))))) (gName 8) (tIfS (tTest (tOp (rNeD K) (tCallS (sp_L_refused_k19 K g) (fun _ => E0) (tCons (tVar 5) (tCons (tVar 8) tNil))) (tTup (tCons (tC (.bl true)) (tCons (tC (.bl false)) (tCons (tC (.bl true)) tNil)))))) (tRet (tC (.bl false))) tNext))
    (tSeq (tAsg (tCallS (sp_dyed K g) (WE (wE E)) (tCons (tVar 5) (tCons (tVar 2) tNil))) (gName 9))
    (tRet (tAndV (tCallS (sp_L_whole K g) (fun _ => E0) (tCons (tVar 9) tNil)) (tOp rEq (tVar 9) (tCallS (sp_L_counted K g) (fun _ => E0) (tCons (tCallS (sp_L_reached K g) (fun _ => E0) (tCons (tVar 6) (tCons (tVar 1) tNil))) (tCons (tVar 2) (tCons (tVar 1) tNil)))))))))))))))))))))
theorem pure_law_k19 {K : PySem.W.Frag} {g : Gd} (vs : List V) (H : Hp) (Q : VK) (E : XK) (h : sp_law K vs H Q E) : Rd1 (t_law_k19 K g E) N_law_k19 vs H Q := by
  obtain ⟨S, ns, rfl, hS, _, k⟩ := h
  unfold t_law_k19
  walk_at "rd"
  refine ⟨S, ns, 0, rfl, hS, ?_⟩
  walk_at "rd"
  refine mod_I (by decide) ?_
  walk_at "rd"
  refine ⟨S, ns, 0, rfl, hS, ?_⟩
  walk_at "rd"
  refine div_I (by decide) (by decide) ?_
  walk_at "rd"
  refine mod_I (by decide) ?_
  obtain ⟨n, en, n1, n4⟩ : ∃ n : Nat, 1 + ns.getD 0 0 % 4 = (n : Int) ∧ 1 ≤ n ∧ n ≤ 4 := ⟨(1 + ns.getD 0 0 % 4).toNat, by omega, by omega, by omega⟩
  rw [en]
  walk_at "re"
  walk_at "sq"
  refine w_join (t := tIfS _ _ _) (fun σ H' => ∃ z : Nat, σ = [some (.ref S), some (.int (n : Int)), some (.int (z : Int)), none, none, none, none, none, none, none] ∧ 1 ≤ z ∧ z ≤ 6 ∧ (n = 4 → z ≤ 3) ∧ H' = H) ?_ fun key => ?_
  · rintro σ H' ⟨z, rfl, z1, z6, z3, rfl⟩
    walk_at "rd"
    refine ⟨S, ns, 5, rfl, hS, ?_⟩
    walk_at "rd"
    refine pow_10 (n := 59) (by omega) ?_
    refine mod_I (by decide) ?_
    have hfar := Int.emod_nonneg (ns.getD 5 0) (show (10 ^ 59 : Int) ≠ 0 by decide)
    generalize ns.getD 5 0 % 10 ^ 59 = far at *
    walk_at "rd"
    refine ⟨S, ns, 1, rfl, hS, ?_⟩
    walk_at "rd"
    refine div_I (by decide) (by decide) ?_
    walk_at "rd"
    refine mod_I (by decide) ?_
    generalize ns.getD 1 0 / 4 % 16 = way at *
    walk_at "re"
    walk_at "sq"
    refine w_join (t := tIfS _ _ _) (fun σ H2 => H' = H2 ∧ σ = [some (.ref S), some (.int (n : Int)), some (.int (z : Int)), some (.int far), some (.int way), none, none, none, none, none]) ?_ fun key1 => ?_
    · rintro σ _ ⟨rfl, rfl⟩
      walk_at "sq"
      refine w_join (t := tIfS _ _ _) (fun σ H2 => H' = H2 ∧ σ = [some (.ref S), some (.int (n : Int)), some (.int (z : Int)), some (.int far), some (.int way), none, none, none, none, none]) ?_ fun key2 => ?_
      · rintro σ _ ⟨rfl, rfl⟩
        walk_at "sq"
        refine w_join (t := tIfS _ _ _) (fun σ H2 => H' = H2 ∧ σ = [some (.ref S), some (.int (n : Int)), some (.int (z : Int)), some (.int far), some (.int way), none, none, none, none, none]) ?_ fun key3 => ?_
        · rintro σ _ ⟨rfl, rfl⟩
          walk_at "rd"
          refine make_room n1 (by omega) fun R H1 s1 hR fr => ?_
          walk_at "rd"
          refine ⟨zl (Nat.zero_le _), fun m hm => ?_⟩
          have s2 := s1.new (o := .lst []) hm
          have hm0 : H' m = none := s1.free hm
          have hmR := hR.nin hm
          have hR2 := hR.same ((Same.refl H1).new (o := .lst []) hm)
          have hm2 : (upd H1 m (.lst [])) m = some (.lst []) := upd_same
          have fr2 : ∀ a ∈ R.F, H' a = none := fun a ha => fr a (R.fg a ha)
          generalize upd H1 m (.lst []) = H2 at *
          clear hR s1 fr hm
          walk_at "rd"
          refine dyed_ok hR2 n4 z1 z6 z3 fun H3 s3 => ?_
          have hR3 := hR2.same s3
          walk_at "rd"
          refine ⟨rgOk_N (by omega), fun q hq => ?_⟩
          rw [rgV_N]
          walk_at "rd"
          refine ⟨zl (by show 1 ≤ 100000; decide), fun d hd => ?_⟩
          have s4 := ((Same.refl H3).new (o := .tup (vN (List.range n))) hq).new (o := .lst [V.ref q]) hd
          have hq4 : (upd (upd H3 q (.tup (vN (List.range n)))) d (.lst [V.ref q])) q = some (.tup (vN (List.range n))) := by rw [upd_ne (ne_of_none upd_same hd)]; exact upd_same
          have hd4 : (upd (upd H3 q (.tup (vN (List.range n)))) d (.lst [V.ref q])) d = some (.lst [V.ref q]) := upd_same
          have hl4 : LT (upd (upd H3 q (.tup (vN (List.range n)))) d (.lst [V.ref q])) [V.ref q] [List.range n] := .cons hq4 .nil
          generalize upd (upd H3 q (.tup (vN (List.range n)))) d (.lst [V.ref q]) = H4 at *
          walk_at "rd"
          have mem0 : ∀ a, a ∈ [List.range n] ↔ a ∈ enumB (Bk.new n) := fun a => by
            rw [List.mem_singleton, enum_gen hR2.cl hR2.mp]
            exact ⟨fun e => by rw [e]; exact .one, fun g => gen_nil g⟩
          refine ⟨d, z, n, [V.ref q], [List.range n], enumB (Bk.new n), rfl, hd4, hl4, z1, z6, n4, grp_enum hR2.cl hR2.mp z1, mem0, by show 1 ≤ 1000; decide, fun H5 s5 => ?_⟩
          walk_at "ex"
          show if (!decide ((((rowsZ z n).filter (minX (enumB (Bk.new n)))).length : Int) = (((rowsZ z n).filter (minX (enumB (Bk.new n)))).length : Int))) = true then _ else _
          rw [decide_eq_true rfl]
          refine if_f rfl ?_
          have s05 := ((s2.trans s3).trans s4).trans s5
          have hR5 := (hR3.same s4).same s5
          have hm5 := ((s3.trans s4).trans s5) _ _ hm2
          clear hR2 hR3 hm2 hq4 hd4 hl4 s2 s3 s4 s5 hq hd
          walk_at "rd"
          refine ⟨S, ns, 1, rfl, s05.lst hS, ?_⟩
          walk_at "rd"
          refine mod_I (by decide) ?_
          obtain ⟨c, ec, hc⟩ : ∃ c : Nat, ns.getD 1 0 % 4 = (c : Int) ∧ c ≤ 3 := ⟨(ns.getD 1 0 % 4).toNat, by omega, by omega⟩
          walk_at "rd"
          rw [ec]
          refine w_for1 (by omega) (fun i σ H6 => ∃ (B : Bk) (ms : List (List Nat)) (mv : List V) (y : Option V), σ = [some (.ref S), some (.int (n : Int)), some (.int (z : Int)), some (.int far), some (.int way), some (.ref R.r), some (.ref m), y, none, none] ∧ RoomAt g H6 R B ms ∧ B.n = n ∧ ms.length = i ∧ H6 m = some (.lst mv) ∧ LT H6 mv ms ∧ Same H' H6) ?_ ?_ ?_
          · exact ⟨Bk.new n, [], [], none, rfl, hR5, rfl, rfl, hm5, .nil, s05⟩
          · rintro i σ H6 hi ⟨B, ms, mv, y, rfl, hR6, eB, hms, hm6, hml6, s6⟩
            subst eB
            walk_at "rd"
            refine ⟨isL (sqL hm6), ?_⟩
            walk_at "rd"
            refine ⟨S, ns, 2 + i, rfl, s6.lst hS, ?_⟩
            walk_at "rd"
            refine ⟨_, B.n, rfl, by omega, fun q H7 s7 hq hq7 => ?_⟩
            have pa : IsP B.n (seatN (ns.getD (2 + i) 0) B.n) := isP_seat _ _
            generalize seatN (ns.getD (2 + i) 0) B.n = a at *
            have hm7 := s7 _ _ hm6
            walk_at "rd"
            refine app_V hm7 (by rw [hml6.len]; omega) ?_
            have hR8 : RoomAt g (upd H7 m (.lst (mv ++ [.ref q]))) R B ms := (hR6.same s7).out hm7 (fun _ z => by cases z) hmR
            have hm8 : (upd H7 m (.lst (mv ++ [.ref q]))) m = some (.lst (mv ++ [.ref q])) := upd_same
            have hq8 : (upd H7 m (.lst (mv ++ [.ref q]))) q = some (.tup (vN a)) := by rw [upd_ne (ne_of hq7 hm7 fun z => by cases z)]; exact hq7
            have hml8 : LT (upd H7 m (.lst (mv ++ [.ref q]))) (mv ++ [.ref q]) (ms ++ [a]) := ((hml6.mono s7).upL hm7).snoc hq8
            have s8 : Same H' (upd H7 m (.lst (mv ++ [.ref q]))) := (s6.trans s7).up hm0
            generalize upd H7 m (.lst (mv ++ [.ref q])) = H8 at *
            walk_at "rd"
            refine hR8.inst (by rfl) ?_
            walk_at "rd"
            refine ix_lastV' (sqL hm8) rfl ?_
            walk_at "rd"
            refine put_ok hR8 hq8 pa (by omega) fun H9 B' hR9 b9 eB _ => ?_
            walk_at "rd"
            exact ⟨B', _, mv ++ [.ref q], some (.int (i : Int)), rfl, hR9, eB, by rw [List.length_append, hms] <;> rfl, b9.s _ _ hm8 fun z => hmR (R.fg _ z), hml8.tu b9.t, s8.past b9 fr2⟩
          · rintro σ H6 ⟨B, ms, mv, y, rfl, hR6, eB, hms, hm6, hml6, s6⟩
            subst eB
            walk_at "rd"
            refine ⟨zl (by show 4 ≤ 100000; decide), fun l hl => ?_⟩
            have s7 := (Same.refl H6).new (o := .lst [V.int 0, V.int 7, V.int (7 + far), V.int (-1 - far)]) hl
            have hl7 : (upd H6 l (.lst [V.int 0, V.int 7, V.int (7 + far), V.int (-1 - far)])) l = some (.lst [V.int 0, V.int 7, V.int (7 + far), V.int (-1 - far)]) := upd_same
            generalize upd H6 l (.lst [V.int 0, V.int 7, V.int (7 + far), V.int (-1 - far)]) = H7 at *
            walk_at "rd"
            refine ⟨l, rfl, ⟨_, sqL hl7⟩, for_list (K := K) (a := l) (xs := [V.int 0, V.int 7, V.int (7 + far), V.int (-1 - far)]) (fun i σ H8 => (∃ y2, σ = [some (.ref S), some (.int (B.n : Int)), some (.int (z : Int)), some (.int far), some (.int way), some (.ref R.r), some (.ref m), y, y2, none]) ∧ Same H7 H8) ⟨⟨_, rfl⟩, Same.refl _⟩ (fun i σ H8 _ q => sqL (q.2 _ _ hl7)) ?_ ?_⟩
            · rintro i v σ H8 hi ⟨⟨y2, rfl⟩, s8⟩
              obtain ⟨w, rfl, hw⟩ : ∃ w : Int, v = .int w ∧ ¬ (1 ≤ w ∧ w ≤ 6) := by
                match i, hi with
                | 0, hi => exact ⟨0, (Option.some.inj hi).symm, by decide⟩
                | 1, hi => exact ⟨7, (Option.some.inj hi).symm, by decide⟩
                | 2, hi => exact ⟨7 + far, (Option.some.inj hi).symm, by omega⟩
                | 3, hi => exact ⟨-1 - far, (Option.some.inj hi).symm, by omega⟩
                | j + 4, hi => simp at hi
              refine (?_ : (tIfS _ _ _) _ _ _)
              walk_at "rd"
              refine ⟨R, B, ms, w, true, rfl, (hR6.same s7).same s8, fun _ => hw, (fun c => by cases c), fun r H9 s9 hr => ?_⟩
              walk_at "rd"
              refine ⟨zl (by show 3 ≤ 100000; decide), fun r2 hr2 => ?_⟩
              refine ne_TB (a := [true, false, true]) (b := [true, false, true]) (sqT (by rw [upd_ne (ne_of_none hr hr2)]; exact hr)) (sqT upd_same) ?_
              have s10 := s9.new (o := .tup [V.bl true, V.bl false, V.bl true]) hr2
              show _
              walk_at "ex"
              rw [decide_eq_true rfl]
              refine if_f rfl ?_
              exact ⟨⟨some (.int w), rfl⟩, s8.trans s10⟩
            · rintro σ H8 ⟨⟨y2, rfl⟩, s8⟩
              have hR8 := (hR6.same s7).same s8
              have s78 := s7.trans s8
              walk_at "rd"
              refine dyed_ok hR8 n4 z1 z6 z3 fun H9 s9 => ?_
              have s79 := s78.trans s9
              walk_at "rd"
              refine ⟨_, rfl, true, rfl, if_t rfl ?_⟩
              walk_at "ex"
              refine ⟨m, B.n, mv, ms, rfl, sqL (s79 _ _ hm6), hml6.mono s79, hR8.mp, by omega, fun as nd hG d H10 dv s10 hd hd1 hdl => ?_⟩
              walk_at "ex"
              have memE : ∀ a, a ∈ as ↔ a ∈ enumB B := fun a => (hG a).trans (enum_gen hR8.cl hR8.mp).symm
              have hlen : as.length ≤ 1000 := by
                have e1 : as.length = (enumB B).length := nd_len nd (enum_nd hR8.cl) memE
                rw [enumB_len hR8.cl.ok] at e1
                have e2 := many_fct hR8.cl hR8.mp
                have hf : fct B.n ≤ 24 := by
                  revert n1 n4
                  generalize B.n = n
                  intro n1 n4
                  match n, n1, n4 with
                  | 1, _, _ => decide
                  | 2, _, _ => decide
                  | 3, _, _ => decide
                  | 4, _, _ => decide
                omega
              refine ⟨d, z, B.n, dv, as, enumB B, rfl, hd1, hdl, z1, z6, n4, grp_enum hR8.cl hR8.mp z1, memE, hlen, fun H11 s11 => ?_⟩
              walk_at "ex"
              rw [decide_eq_true rfl]
              exact k _
        · walk_at "st"
          refine w_orP (b := decide (way = 2)) (c := decide (way = 3)) (fun R' r => ?_) (fun R' r => ?_) ?_
          · walk_at "ex"
            exact r
          · walk_at "ex"
            exact r
          refine if_b (fun _ => ?_) (fun _ => ?_)
          · walk_at "rd"
            refine ⟨S, ns, 0, rfl, hS, ?_⟩
            walk_at "rd"
            refine mod_I (by decide) ?_
            walk_at "rd"
            obtain ⟨w, ew, w1, w6⟩ : ∃ w : Nat, 1 + ns.getD 0 0 % 6 = (w : Int) ∧ 1 ≤ w ∧ w ≤ 6 := ⟨(1 + ns.getD 0 0 % 6).toNat, by omega, by omega, by omega⟩
            rw [ew]
            exact ⟨w, rfl, w1, w6, fun H2 => k H2⟩
          · exact key3 _ _ ⟨rfl, rfl⟩
      · walk_at "st"
        walk_at "ex"
        refine if_d (fun e => ?_) (fun ne => ?_)
        · walk_at "ex"
          refine ⟨S, ns, 0, rfl, hS, ?_⟩
          walk_at "ex"
          refine mod_I (by decide) ?_
          walk_at "ex"
          refine if_d (fun _ => ?_) (fun _ => ?_)
          · walk_at "rd"
            exact ⟨rfl, fun H2 => k H2⟩
          · exact key2 _ _ ⟨rfl, rfl⟩
        · exact key2 _ _ ⟨rfl, rfl⟩
    · walk_at "st"
      walk_at "ex"
      refine if_d (fun e => ?_) (fun ne => ?_)
      · walk_at "rd"
        refine ⟨S, ns, 0, rfl, hS, ?_⟩
        walk_at "rd"
        exact ⟨_, far, rfl, hfar, fun H2 => k H2⟩
      · exact key1 _ _ ⟨rfl, rfl⟩
  · obtain ⟨z, ez, z1, z3⟩ : ∃ z : Nat, 1 + ns.getD 0 0 / 4 % 3 = (z : Int) ∧ 1 ≤ z ∧ z ≤ 3 := ⟨(1 + ns.getD 0 0 / 4 % 3).toNat, by omega, by omega, by omega⟩
    rw [ez]
    walk_at "st"
    walk_at "ex"
    refine if_d (fun e => ?_) (fun ne => ?_)
    · walk_at "st"
      walk_at "ex"
      refine ⟨S, ns, 0, rfl, hS, ?_⟩
      walk_at "ex"
      refine div_I (by decide) (by decide) ?_
      walk_at "ex"
      refine mod_I (by decide) ?_
      walk_at "ex"
      obtain ⟨w, ew, w1, w6⟩ : ∃ w : Nat, 1 + ns.getD 0 0 / 4 % 6 = (w : Int) ∧ 1 ≤ w ∧ w ≤ 6 := ⟨(1 + ns.getD 0 0 / 4 % 6).toNat, by omega, by omega, by omega⟩
      rw [ew]
      exact key _ _ ⟨w, rfl, w1, w6, fun c => by omega, rfl⟩
    · exact key _ _ ⟨z, rfl, z1, by omega, fun _ => z3, rfl⟩
end Shf

namespace Shf
open PySem L2
def top (i : Nat) : Stmt := PySem.Challenge.pw_shiftroom_k19_dyeings_told_apart.main.body.getD i (.Pass ⟨0, 0, 0, 0⟩)
abbrev s_ask_size : Stmt := top 12
abbrev s_rest : Stmt := top 16
abbrev s_Book_init : Stmt := inClass (top 20) 0
abbrev s_Room_init : Stmt := inClass (top 23) 0
abbrev s_Book_note : Stmt := inClass (top 20) 1
abbrev s_joined : Stmt := top 14
abbrev s_turned : Stmt := top 15
abbrev s_Book_keep : Stmt := inClass (top 20) 3
abbrev s_Book_sifted : Stmt := inClass (top 20) 2
abbrev s_Book_close : Stmt := inClass (top 20) 4
abbrev s_is_seating : Stmt := top 11
abbrev s_ask_seating : Stmt := top 13
abbrev s_Room_ask : Stmt := inClass (top 23) 1
abbrev s_Room_put_move : Stmt := inClass (top 23) 2
abbrev s_L_whole : Stmt := top 30
abbrev s_Room_how_many : Stmt := inClass (top 23) 4
abbrev s_Room_numbered : Stmt := inClass (top 23) 8
abbrev s_many_times : Stmt := top 26
abbrev s_rings : Stmt := top 18
abbrev s_dyed : Stmt := top 27
abbrev s_L_all_alike : Stmt := top 39
abbrev s_L_cell_at : Stmt := top 29
abbrev s_L_dyeing : Stmt := top 34
abbrev s_L_moved : Stmt := top 35
abbrev s_L_counted : Stmt := top 36
abbrev s_L_just : Stmt := top 40
abbrev s_L_joined : Stmt := top 31
abbrev s_L_reached : Stmt := top 33
abbrev s_L_refused_k19 : Stmt := top 37
abbrev s_L_seating : Stmt := top 32
abbrev s_L_wide_k19 : Stmt := top 38
abbrev s_law_k19 : Stmt := top 41
structure Txt (K : PySem.W.Frag) (mg : Str → Option Value) (g : Gd) : Prop where
  z_ValueError : mg "ValueError" = none
  z_bool : mg "bool" = none
  z_int : mg "int" = none
  z_isinstance : mg "isinstance" = none
  z_len : mg "len" = none
  z_list : mg "list" = none
  z_min : mg "min" = none
  z_range : mg "range" = none
  z_sorted : mg "sorted" = none
  z_tuple : mg "tuple" = none
  c_MANY : ∃ t, mg "MANY" = some (.int 200 t)
  c_MOST : ∃ t, mg "MOST" = some (.int 16 t)
  c_WIDE : ∃ t, mg "WIDE" = some (.int 2000 t)
  g_NoNumber : mg "NoNumber" = some (.ref g.NoNumber)
  g_NoSeating : mg "NoSeating" = some (.ref g.NoSeating)
  g_NoSize : mg "NoSize" = some (.ref g.NoSize)
  g_OtherSize : mg "OtherSize" = some (.ref g.OtherSize)
  g_RoomError : mg "RoomError" = some (.ref g.RoomError)
  g_TooMany : mg "TooMany" = some (.ref g.TooMany)
  g_TooWide : mg "TooWide" = some (.ref g.TooWide)
  x_NoNumber : ExB K mg "NoNumber" g.NoNumber
  x_NoSeating : ExB K mg "NoSeating" g.NoSeating
  x_NoSize : ExB K mg "NoSize" g.NoSize
  x_OtherSize : ExB K mg "OtherSize" g.OtherSize
  x_RoomError : ExB K mg "RoomError" g.RoomError
  x_TooMany : ExB K mg "TooMany" g.TooMany
  x_TooWide : ExB K mg "TooWide" g.TooWide
  g_Book : mg "Book" = some (.ref g.Book)
  cl_Book : Cls K g.Book
  r_Book : BkC K g
  g_Room : mg "Room" = some (.ref g.Room)
  cl_Room : Cls K g.Room
  r_Room : RmC K g
  m_NoNumber_RoomError : PySem.W.exmOne K (.ref g.NoNumber) (.ref g.RoomError) = some true
  m_TooWide_RoomError : PySem.W.exmOne K (.ref g.TooWide) (.ref g.RoomError) = some true
  e_NoNumber : ExcC K g.NoNumber
  e_TooWide : ExcC K g.TooWide
  k_NoNumber_NoNumber : PySem.W.kitOne K (.ref g.NoNumber) (.ref g.NoNumber) = some true
  k_NoNumber_TooWide : PySem.W.kitOne K (.ref g.NoNumber) (.ref g.TooWide) = some false
  k_TooWide_NoNumber : PySem.W.kitOne K (.ref g.TooWide) (.ref g.NoNumber) = some false
  k_TooWide_TooWide : PySem.W.kitOne K (.ref g.TooWide) (.ref g.TooWide) = some true
  k_NoNumber_ValueError : PySem.W.kitOne K (.ref g.NoNumber) (.type "ValueError") = some true
  k_TooWide_ValueError : PySem.W.kitOne K (.ref g.TooWide) (.type "ValueError") = some true
section
variable {P : Program} {w : World} {K : PySem.W.Frag} {mg : Str → Option Value} {base : Heap} {g : Gd}
theorem sc_ask_size : FnScope N_ask_size ["size"] (defScope s_ask_size) := ⟨rfl, rfl, rfl, by decide +kernel, rfl, by decide +kernel, by decide +kernel⟩
theorem ok_ask_size {f : Addr} {fd : FuncData} (T : Txt K mg g) (F : Fun K "ask_size" "ask_size" s_ask_size f fd)  : FnOk P w K mg base (L2.CX P w) 1 f fd ["size"] (sp_ask_size K g) := by
  refine F.okX sc_ask_size (fun vs H Q E h => len_ask_size K g vs H Q E h) (fun cdv A outer s H vs Q E hr h => ⟨t_ask_size K g E, ?_, pure_ask_size  vs H Q E h⟩)
  have hu := hu_of hr
  have tkE : Takes (cxOf (L2.CX P w) P w K mg base N_ask_size "ask_size" (defScope s_ask_size) f cdv A outer s H E) (wE E) := takes_of rfl rfl rfl rfl
  exact (pss_one (ps_if (PW.pt (pw_or (pt_cmpR op_lt (pv 0) pe_int (nomark _)) (pw_or1 (pt_cmpR op_gt (pv 0) (pe_globI T.c_MOST) (nomark _))))) (pss_one (ps_raise rfl tkE (pmk_own PySem.F.excBase_ValueError T.x_NoSize.ex T.x_NoSize.gC T.x_NoSize.kC (raises_own T.x_NoSize.bC T.x_NoSize.tC) rfl))) pss_nil))
theorem sc_rest : FnScope N_rest ["size"] (defScope s_rest) := ⟨rfl, rfl, rfl, by decide +kernel, rfl, by decide +kernel, by decide +kernel⟩
theorem ok_rest {f : Addr} {fd : FuncData} (T : Txt K mg g) (F : Fun K "rest" "rest" s_rest f fd) (c_ask_size : Cal P w K mg base 1 "ask_size" ["size"] (sp_ask_size K g)) : FnOk P w K mg base (L2.CX P w) 2 f fd ["size"] (sp_rest K g) := by
  refine F.okX sc_rest (fun vs H Q E h => len_rest K g vs H Q E h) (fun cdv A outer s H vs Q E hr h => ⟨t_rest K g E, ?_, pure_rest  vs H Q E h⟩)
  have hu := hu_of hr
  have tkE : Takes (cxOf (L2.CX P w) P w K mg base N_rest "rest" (defScope s_rest) f cdv A outer s H E) (wE E) := takes_of rfl rfl rfl rfl
  exact (pss_cons (ps_expr (pe_cal c_ask_size (hr.mono (by decide)) rfl (fun σ => passAt tkE σ) (pa_cons (pv 0) pa_nil)))
    (pss_one (ps_ret (pe_tupRg rfl (by rfl) T.z_tuple (prg_1 (by rfl) T.z_range (pv 0))))))
theorem sc_Book_init : FnScope N_Book_init ["self", "size"] (defScope s_Book_init) := ⟨rfl, rfl, rfl, by decide +kernel, rfl, by decide +kernel, by decide +kernel⟩
theorem ok_Book_init {f : Addr} {fd : FuncData} (T : Txt K mg g) (F : Fun K "__init__" "Book.__init__" s_Book_init f fd) (c_rest : Cal P w K mg base 2 "rest" ["size"] (sp_rest K g)) : FnOk P w K mg base (L2.CX P w) 3 f fd ["self", "size"] (sp_Book_init K g) := by
  refine F.okX sc_Book_init (fun vs H Q E h => len_Book_init K g vs H Q E h) (fun cdv A outer s H vs Q E hr h => ⟨t_Book_init K g E, ?_, pure_Book_init T.r_Book vs H Q E h⟩)
  have hu := hu_of hr
  have tkE : Takes (cxOf (L2.CX P w) P w K mg base N_Book_init "Book.__init__" (defScope s_Book_init) f cdv A outer s H E) (wE E) := takes_of rfl rfl rfl rfl
  exact (pss_cons (ps_fld (pv 0) (pv 1) rfl)
    (pss_cons (ps_fld (pv 0) (pe_lst (pa_cons (pe_tup (pa_cons pe_str pa_nil)) pa_nil)) rfl)
    (pss_cons (ps_fld (pv 0) (pe_lst (pa_cons (pe_cal c_rest (hr.mono (by decide)) rfl (fun σ => passAt tkE σ) (pa_cons (pv 1) pa_nil)) pa_nil)) rfl)
    (pss_cons (ps_fld (pv 0) (pe_lc (own := [("k", 2)]) (g := gName 2) rfl sc_Book_init.nd (pi_range1 (by rfl) T.z_range (pa_cons (pv 1) pa_nil)) (blkOk_by (own := [("k", 2)]) (N := N_Book_init) (sc := defScope s_Book_init) (by decide +kernel)) (fun _ _ _ _ _ => pg_name (i := 2) sc_Book_init.nd rfl (Or.inl rfl)) (fun _ _ _ _ _ => pts_nil) (fun _ _ _ _ _ => (pe_disp (pps_cons (pv 2) pe_int pps_nil) (by rfl) (by rfl) (fun z => by cases z) (by decide)))) rfl)
    (pss_one (ps_fld (pv 0) (pe_lst pa_nil) rfl))))))
theorem sc_Room_init : FnScope N_Room_init ["self", "size"] (defScope s_Room_init) := ⟨rfl, rfl, rfl, by decide +kernel, rfl, by decide +kernel, by decide +kernel⟩
theorem ok_Room_init {f : Addr} {fd : FuncData} (T : Txt K mg g) (F : Fun K "__init__" "Room.__init__" s_Room_init f fd) (c_Book_init : CalI P w K mg base 3 g.Book ["self", "size"] (sp_Book_init K g)) (c_ask_size : Cal P w K mg base 1 "ask_size" ["size"] (sp_ask_size K g)) : FnOk P w K mg base (L2.CX P w) 5 f fd ["self", "size"] (sp_Room_init K g) := by
  refine F.okX sc_Room_init (fun vs H Q E h => len_Room_init K g vs H Q E h) (fun cdv A outer s H vs Q E hr h => ⟨t_Room_init K g E, ?_, pure_Room_init T.r_Room vs H Q E h⟩)
  have hu := hu_of hr
  have tkE : Takes (cxOf (L2.CX P w) P w K mg base N_Room_init "Room.__init__" (defScope s_Room_init) f cdv A outer s H E) (wE E) := takes_of rfl rfl rfl rfl
  exact (pss_cons (ps_expr (pe_cal c_ask_size (hr.mono (by decide)) rfl (fun σ => passAt tkE σ) (pa_cons (pv 1) pa_nil)))
    (pss_cons (ps_fld (pv 0) (pv 1) rfl)
    (pss_cons (ps_fld (pv 0) (pe_lst pa_nil) rfl)
    (pss_one (ps_fld (pv 0) (pe_mk c_Book_init (hr.mono (by decide)) rfl T.g_Book (fun σ => passE0 σ) (pa_cons (pv 1) pa_nil)) rfl)))))
theorem sc_Book_note : FnScope N_Book_note ["self", "step", "seating"] (defScope s_Book_note) := ⟨rfl, rfl, rfl, by decide +kernel, rfl, by decide +kernel, by decide +kernel⟩
theorem ok_Book_note {f : Addr} {fd : FuncData} (T : Txt K mg g) (F : Fun K "note" "Book.note" s_Book_note f fd)  : FnOk P w K mg base (L2.CX P w) 1 f fd ["self", "step", "seating"] (sp_Book_note K g) := by
  refine F.okX sc_Book_note (fun vs H Q E h => len_Book_note K g vs H Q E h) (fun cdv A outer s H vs Q E hr h => ⟨t_Book_note K g E, ?_, pure_Book_note T.r_Book vs H Q E h⟩)
  have hu := hu_of hr
  have tkE : Takes (cxOf (L2.CX P w) P w K mg base N_Book_note "Book.note" (defScope s_Book_note) f cdv A outer s H E) (wE E) := takes_of rfl rfl rfl rfl
  exact (pss_cons (ps_expr (pe_bm PySem.F.plainAttrs_list PySem.F.slot_list_append PySem.F.type_list_append mt_append (pe_fld (pv 0) rfl) (pa_cons (pv 1) pa_nil)))
    (pss_cons (ps_expr (pe_bm PySem.F.plainAttrs_list PySem.F.slot_list_append PySem.F.type_list_append mt_append (pe_fld (pv 0) rfl) (pa_cons (pv 2) pa_nil)))
    (pss_one (ps_ret (pe_op op_sub (pe_callB call_len_seq (by rfl) T.z_len PySem.boot_len (pa_cons (pe_fld (pv 0) rfl) pa_nil)) pe_int)))))
theorem sc_joined : FnScope N_joined ["a", "b"] (defScope s_joined) := ⟨rfl, rfl, rfl, by decide +kernel, rfl, by decide +kernel, by decide +kernel⟩
theorem ok_joined {f : Addr} {fd : FuncData} (T : Txt K mg g) (F : Fun K "joined" "joined" s_joined f fd)  : FnOk P w K mg base (L2.CX P w) 1 f fd ["a", "b"] (sp_joined K g) := by
  refine F.okX sc_joined (fun vs H Q E h => len_joined K g vs H Q E h) (fun cdv A outer s H vs Q E hr h => ⟨t_joined K g E, ?_, pure_joined  vs H Q E h⟩)
  have hu := hu_of hr
  have tkE : Takes (cxOf (L2.CX P w) P w K mg base N_joined "joined" (defScope s_joined) f cdv A outer s H E) (wE E) := takes_of rfl rfl rfl rfl
  exact (pss_one (ps_ret (pe_callTy call_tuple_of (by rfl) T.z_tuple (by decide +kernel) (pa_cons (pe_lc (own := [("k", 2)]) (g := gName 2) rfl sc_joined.nd (pi_tup (pv 0)) (blkOk_by (own := [("k", 2)]) (N := N_joined) (sc := defScope s_joined) (by decide +kernel)) (fun _ _ _ _ _ => pg_name (i := 2) sc_joined.nd rfl (Or.inl rfl)) (fun _ _ _ _ _ => pts_nil) (fun _ _ _ _ _ => (pe_ix ix_tup (pv 1) (pv 2) (fun _ _ => rfl)))) pa_nil))))
theorem sc_turned : FnScope N_turned ["a"] (defScope s_turned) := ⟨rfl, rfl, rfl, by decide +kernel, rfl, by decide +kernel, by decide +kernel⟩
theorem ok_turned {f : Addr} {fd : FuncData} (T : Txt K mg g) (F : Fun K "turned" "turned" s_turned f fd)  : FnOk P w K mg base (L2.CX P w) 1 f fd ["a"] (sp_turned K g) := by
  refine F.okX sc_turned (fun vs H Q E h => len_turned K g vs H Q E h) (fun cdv A outer s H vs Q E hr h => ⟨t_turned K g E, ?_, pure_turned  vs H Q E h⟩)
  have hu := hu_of hr
  have tkE : Takes (cxOf (L2.CX P w) P w K mg base N_turned "turned" (defScope s_turned) f cdv A outer s H E) (wE E) := takes_of rfl rfl rfl rfl
  exact (pss_cons (ps_set (i := 1) sc_turned.nd rfl (Or.inl rfl) (pe_op op_rep (pe_lst (pa_cons pe_int pa_nil)) (pe_callB call_len_seq (by rfl) T.z_len PySem.boot_len (pa_cons (pv 0) pa_nil))))
    (pss_cons (ps_for (passes_of rfl) rfl (pi_range1 (by rfl) T.z_range (pa_cons (pe_callB call_len_seq (by rfl) T.z_len PySem.boot_len (pa_cons (pv 0) pa_nil)) pa_nil)) (pg_name (i := 2) sc_turned.nd rfl (Or.inl rfl)) (pss_one (ps_asg (pv 2) (pg_sub (pv 1) (pe_ix ix_tup (pv 0) (pv 2) (fun _ _ => rfl)) set_list))))
    (pss_one (ps_ret (pe_callTy call_tuple_of (by rfl) T.z_tuple (by decide +kernel) (pa_cons (pv 1) pa_nil))))))
theorem sc_Book_keep : FnScope N_Book_keep ["self", "at", "where", "went"] (defScope s_Book_keep) := ⟨rfl, rfl, rfl, by decide +kernel, rfl, by decide +kernel, by decide +kernel⟩
theorem ok_Book_keep {f : Addr} {fd : FuncData} (T : Txt K mg g) (F : Fun K "keep" "Book.keep" s_Book_keep f fd) (c_Book_note : CalM P w K mg base 1 g.Book "note" ["self", "step", "seating"] (sp_Book_note K g)) (c_joined : Cal P w K mg base 1 "joined" ["a", "b"] (sp_joined K g)) (c_turned : Cal P w K mg base 1 "turned" ["a"] (sp_turned K g)) : FnOk P w K mg base (L2.CX P w) 2 f fd ["self", "at", "where", "went"] (sp_Book_keep K g) := by
  refine F.okX sc_Book_keep (fun vs H Q E h => len_Book_keep K g vs H Q E h) (fun cdv A outer s H vs Q E hr h => ⟨t_Book_keep K g E, ?_, pure_Book_keep T.r_Book vs H Q E h⟩)
  have hu := hu_of hr
  have tkE : Takes (cxOf (L2.CX P w) P w K mg base N_Book_keep "Book.keep" (defScope s_Book_keep) f cdv A outer s H E) (wE E) := takes_of rfl rfl rfl rfl
  exact (pss_cons (ps_set (i := 4) sc_Book_keep.nd rfl (Or.inl rfl) (pe_ix ix_list (pe_fld (pv 0) rfl) (pv 1) (fun _ _ => rfl)))
    (pss_cons (ps_for (passes_of rfl) rfl (pi_list (pv 3)) (pg_name (i := 5) sc_Book_keep.nd rfl (Or.inl rfl)) (pss_one (ps_if (pt_cmpR op_ne (pv 5) pe_int (nomark _)) (pss_cons (ps_set (i := 6) sc_Book_keep.nd rfl (Or.inl rfl) (pe_calM (pv 0) T.cl_Book c_Book_note (hr.mono (by decide)) (fun σ => passE0 σ) (pa_cons (pe_tup (pa_cons pe_str (pa_cons (pv 5) pa_nil))) (pa_cons (pe_cal c_turned (hr.mono (by decide)) rfl (fun σ => passE0 σ) (pa_cons (pe_ix ix_list (pe_fld (pv 0) rfl) (pv 5) (fun _ _ => rfl)) pa_nil)) pa_nil))))
    (pss_cons (ps_set (i := 4) sc_Book_keep.nd rfl (Or.inl rfl) (pe_cal c_joined (hr.mono (by decide)) rfl (fun σ => passE0 σ) (pa_cons (pv 4) (pa_cons (pe_ix ix_list (pe_fld (pv 0) rfl) (pv 6) (fun _ _ => rfl)) pa_nil))))
    (pss_one (ps_set (i := 1) sc_Book_keep.nd rfl (Or.inl rfl) (pe_calM (pv 0) T.cl_Book c_Book_note (hr.mono (by decide)) (fun σ => passE0 σ) (pa_cons (pe_tup (pa_cons pe_str (pa_cons (pv 1) (pa_cons (pv 6) pa_nil)))) (pa_cons (pv 4) pa_nil))))))) pss_nil)))
    (pss_cons (ps_dput hu (pe_ix ix_list (pe_fld (pv 0) rfl) (pv 2) (fun _ _ => rfl)) (pe_ix ix_tup (pv 4) (pv 2) (fun _ _ => rfl)) (pv 1) rfl)
    (pss_cons (ps_expr (pe_bm PySem.F.plainAttrs_list PySem.F.slot_list_append PySem.F.type_list_append mt_append (pe_fld (pv 0) rfl) (pa_cons (pv 1) pa_nil)))
    (pss_one (ps_ret (pv 1)))))))
theorem sc_Book_sifted : FnScope N_Book_sifted ["self", "seating"] (defScope s_Book_sifted) := ⟨rfl, rfl, rfl, by decide +kernel, rfl, by decide +kernel, by decide +kernel⟩
theorem ok_Book_sifted {f : Addr} {fd : FuncData} (T : Txt K mg g) (F : Fun K "sifted" "Book.sifted" s_Book_sifted f fd) (c_joined : Cal P w K mg base 1 "joined" ["a", "b"] (sp_joined K g)) (c_turned : Cal P w K mg base 1 "turned" ["a"] (sp_turned K g)) : FnOk P w K mg base (L2.CX P w) 2 f fd ["self", "seating"] (sp_Book_sifted K g) := by
  refine F.okX sc_Book_sifted (fun vs H Q E h => len_Book_sifted K g vs H Q E h) (fun cdv A outer s H vs Q E hr h => ⟨t_Book_sifted K g E, ?_, pure_Book_sifted T.r_Book vs H Q E h⟩)
  have hu := hu_of hr
  have tkE : Takes (cxOf (L2.CX P w) P w K mg base N_Book_sifted "Book.sifted" (defScope s_Book_sifted) f cdv A outer s H E) (wE E) := takes_of rfl rfl rfl rfl
  exact (pss_cons (ps_set (i := 2) sc_Book_sifted.nd rfl (Or.inl rfl) (pv 1))
    (pss_cons (ps_set (i := 3) sc_Book_sifted.nd rfl (Or.inl rfl) (pe_lst pa_nil))
    (pss_cons (ps_for (passes_of rfl) rfl (pi_range1 (by rfl) T.z_range (pa_cons (pe_fld (pv 0) rfl) pa_nil)) (pg_name (i := 4) sc_Book_sifted.nd rfl (Or.inl rfl)) (pss_cons (ps_set (i := 5) sc_Book_sifted.nd rfl (Or.inl rfl) (pe_dget1 hu (pe_ix ix_list (pe_fld (pv 0) rfl) (pv 4) (fun _ _ => rfl)) (pe_ix ix_tup (pv 2) (pv 4) (fun _ _ => rfl)) ⟨rfl, rfl, rfl, rfl⟩))
    (pss_cons (ps_if (pt_cmpR op_isN (pv 5) pe_non (nomark _)) (pss_one (ps_ret (pe_tup (pa_cons (pv 4) (pa_cons (pv 2) (pa_cons (pv 3) pa_nil)))))) pss_nil)
    (pss_cons (ps_expr (pe_bm PySem.F.plainAttrs_list PySem.F.slot_list_append PySem.F.type_list_append mt_append (pv 3) (pa_cons (pv 5) pa_nil)))
    (pss_one (ps_set (i := 2) sc_Book_sifted.nd rfl (Or.inl rfl) (pe_cal c_joined (hr.mono (by decide)) rfl (fun σ => passE0 σ) (pa_cons (pv 2) (pa_cons (pe_cal c_turned (hr.mono (by decide)) rfl (fun σ => passE0 σ) (pa_cons (pe_ix ix_list (pe_fld (pv 0) rfl) (pv 5) (fun _ _ => rfl)) pa_nil)) pa_nil)))))))))
    (pss_one (ps_ret (pe_tup (pa_cons (pe_fld (pv 0) rfl) (pa_cons (pv 2) (pa_cons (pv 3) pa_nil)))))))))
theorem sc_Book_close : FnScope N_Book_close ["self", "first"] (defScope s_Book_close) := ⟨rfl, rfl, rfl, by decide +kernel, rfl, by decide +kernel, by decide +kernel⟩
theorem ok_Book_close {f : Addr} {fd : FuncData} (T : Txt K mg g) (F : Fun K "close" "Book.close" s_Book_close f fd) (c_Book_keep : CalM P w K mg base 2 g.Book "keep" ["self", "at", "where", "went"] (sp_Book_keep K g)) (c_Book_note : CalM P w K mg base 1 g.Book "note" ["self", "step", "seating"] (sp_Book_note K g)) (c_Book_sifted : CalM P w K mg base 2 g.Book "sifted" ["self", "seating"] (sp_Book_sifted K g)) (c_joined : Cal P w K mg base 1 "joined" ["a", "b"] (sp_joined K g)) : FnOk P w K mg base (L2.CX P w) 3 f fd ["self", "first"] (sp_Book_close K g) := by
  refine F.okX sc_Book_close (fun vs H Q E h => len_Book_close K g vs H Q E h) (fun cdv A outer s H vs Q E hr h => ⟨t_Book_close K g E, ?_, pure_Book_close T.r_Book vs H Q E h⟩)
  have hu := hu_of hr
  have tkE : Takes (cxOf (L2.CX P w) P w K mg base N_Book_close "Book.close" (defScope s_Book_close) f cdv A outer s H E) (wE E) := takes_of rfl rfl rfl rfl
  exact (pss_cons (ps_set (i := 2) sc_Book_close.nd rfl (Or.inl rfl) pe_bl)
    (pss_cons (ps_set (i := 3) sc_Book_close.nd rfl (Or.inl rfl) (pe_lst (pa_cons (pe_tup (pa_cons (pv 1) (pa_cons pe_int pa_nil))) pa_nil)))
    (pss_cons (ps_while (passes_of rfl) (pt_cmpR op_gt (pe_callB call_len_seq (by rfl) T.z_len PySem.boot_len (pa_cons (pv 3) pa_nil)) pe_int (nomark _)) (pss_cons (ps_set (i := 4) sc_Book_close.nd rfl (Or.inl rfl) (pe_bm0 PySem.F.plainAttrs_list PySem.F.slot_list_pop PySem.F.type_list_pop mt_pop (pv 3)))
    (pss_cons (ps_set (i := 5) sc_Book_close.nd rfl (Or.inl rfl) (pe_cal c_joined (hr.mono (by decide)) rfl (fun σ => passE0 σ) (pa_cons (pe_ix ix_list (pe_fld (pv 0) rfl) (pe_ix ix_tup (pv 4) pe_int (fun _ _ => rfl)) (fun _ _ => rfl)) (pa_cons (pe_ix ix_list (pe_fld (pv 0) rfl) (pe_ix ix_tup (pv 4) pe_int (fun _ _ => rfl)) (fun _ _ => rfl)) pa_nil))))
    (pss_cons (ps_set (i := 6) sc_Book_close.nd rfl (Or.inl rfl) (pe_calM (pv 0) T.cl_Book c_Book_sifted (hr.mono (by decide)) (fun σ => passE0 σ) (pa_cons (pv 5) pa_nil)))
    (pss_one (ps_if (pt_cmpR op_lt (pe_ix ix_tup (pv 6) pe_int (fun _ _ => rfl)) (pe_fld (pv 0) rfl) (nomark _)) (pss_cons (ps_set (i := 7) sc_Book_close.nd rfl (Or.inl rfl) (pe_ix ix_tup (pv 4) pe_int (fun _ _ => rfl)))
    (pss_cons (ps_if (pt_cmpR op_ne (pe_ix ix_tup (pv 4) pe_int (fun _ _ => rfl)) pe_int (nomark _)) (pss_one (ps_set (i := 7) sc_Book_close.nd rfl (Or.inl rfl) (pe_calM (pv 0) T.cl_Book c_Book_note (hr.mono (by decide)) (fun σ => passE0 σ) (pa_cons (pe_tup (pa_cons pe_str (pa_cons (pe_ix ix_tup (pv 4) pe_int (fun _ _ => rfl)) (pa_cons (pe_ix ix_tup (pv 4) pe_int (fun _ _ => rfl)) pa_nil)))) (pa_cons (pv 5) pa_nil))))) pss_nil)
    (pss_cons (ps_set (i := 8) sc_Book_close.nd rfl (Or.inl rfl) (pe_calM (pv 0) T.cl_Book c_Book_keep (hr.mono (by decide)) (fun σ => passE0 σ) (pa_cons (pv 7) (pa_cons (pe_ix ix_tup (pv 6) pe_int (fun _ _ => rfl)) (pa_cons (pe_ix ix_tup (pv 6) pe_int (fun _ _ => rfl)) pa_nil)))))
    (pss_cons (ps_set (i := 2) sc_Book_close.nd rfl (Or.inl rfl) pe_bl)
    (pss_one (ps_for (passes_of rfl) rfl (pi_list (pe_fld (pv 0) rfl)) (pg_name (i := 9) sc_Book_close.nd rfl (Or.inl rfl)) (pss_cons (ps_expr (pe_bm PySem.F.plainAttrs_list PySem.F.slot_list_append PySem.F.type_list_append mt_append (pv 3) (pa_cons (pe_tup (pa_cons (pv 8) (pa_cons (pv 9) pa_nil))) pa_nil)))
    (pss_one (ps_expr (pe_bm PySem.F.plainAttrs_list PySem.F.slot_list_append PySem.F.type_list_append mt_append (pv 3) (pa_cons (pe_tup (pa_cons (pv 9) (pa_cons (pv 8) pa_nil))) pa_nil))))))))))) pss_nil))))))
    (pss_one (ps_ret (pv 2))))))
theorem sc_is_seating : FnScope N_is_seating ["row"] (defScope s_is_seating) := ⟨rfl, rfl, rfl, by decide +kernel, rfl, by decide +kernel, by decide +kernel⟩
theorem ok_is_seating {f : Addr} {fd : FuncData} (T : Txt K mg g) (F : Fun K "is_seating" "is_seating" s_is_seating f fd)  : FnOk P w K mg base (L2.CX P w) 1 f fd ["row"] (sp_is_seating K g) := by
  refine F.okX sc_is_seating (fun vs H Q E h => len_is_seating K g vs H Q E h) (fun cdv A outer s H vs Q E hr h => ⟨t_is_seating K g E, ?_, pure_is_seating  vs H Q E h⟩)
  have hu := hu_of hr
  have tkE : Takes (cxOf (L2.CX P w) P w K mg base N_is_seating "is_seating" (defScope s_is_seating) f cdv A outer s H E) (wE E) := takes_of rfl rfl rfl rfl
  exact (pss_cons (ps_if (PW.pt (pw_or (pt_cmpR op_lt (pe_callB call_len_seq (by rfl) T.z_len PySem.boot_len (pa_cons (pv 0) pa_nil)) pe_int (nomark _)) (pw_or1 (pt_cmpR op_gt (pe_callB call_len_seq (by rfl) T.z_len PySem.boot_len (pa_cons (pv 0) pa_nil)) (pe_globI T.c_MOST) (nomark _))))) (pss_one (ps_ret pe_bl)) pss_nil)
    (pss_cons (ps_for (passes_of rfl) rfl (pi_range1 (by rfl) T.z_range (pa_cons (pe_callB call_len_seq (by rfl) T.z_len PySem.boot_len (pa_cons (pv 0) pa_nil)) pa_nil)) (pg_name (i := 1) sc_is_seating.nd rfl (Or.inl rfl)) (pss_one (ps_if (pt_cmpR op_notIn_seq (pv 1) (pv 0) (by rfl)) (pss_one (ps_ret pe_bl)) pss_nil)))
    (pss_one (ps_ret pe_bl))))
theorem sc_ask_seating : FnScope N_ask_seating ["a"] (defScope s_ask_seating) := ⟨rfl, rfl, rfl, by decide +kernel, rfl, by decide +kernel, by decide +kernel⟩
theorem ok_ask_seating {f : Addr} {fd : FuncData} (T : Txt K mg g) (F : Fun K "ask_seating" "ask_seating" s_ask_seating f fd) (c_is_seating : Cal P w K mg base 1 "is_seating" ["row"] (sp_is_seating K g)) : FnOk P w K mg base (L2.CX P w) 2 f fd ["a"] (sp_ask_seating K g) := by
  refine F.okX sc_ask_seating (fun vs H Q E h => len_ask_seating K g vs H Q E h) (fun cdv A outer s H vs Q E hr h => ⟨t_ask_seating K g E, ?_, pure_ask_seating  vs H Q E h⟩)
  have hu := hu_of hr
  have tkE : Takes (cxOf (L2.CX P w) P w K mg base N_ask_seating "ask_seating" (defScope s_ask_seating) f cdv A outer s H E) (wE E) := takes_of rfl rfl rfl rfl
  exact (pss_one (ps_if (pt_not (pt_val (pe_cal c_is_seating (hr.mono (by decide)) rfl (fun σ => passE0 σ) (pa_cons (pv 0) pa_nil)))) (pss_one (ps_raise rfl tkE (pmk_own PySem.F.excBase_ValueError T.x_NoSeating.ex T.x_NoSeating.gC T.x_NoSeating.kC (raises_own T.x_NoSeating.bC T.x_NoSeating.tC) rfl))) pss_nil))
theorem sc_Room_ask : FnScope N_Room_ask ["self", "a"] (defScope s_Room_ask) := ⟨rfl, rfl, rfl, by decide +kernel, rfl, by decide +kernel, by decide +kernel⟩
theorem ok_Room_ask {f : Addr} {fd : FuncData} (T : Txt K mg g) (F : Fun K "ask" "Room.ask" s_Room_ask f fd) (c_ask_seating : Cal P w K mg base 2 "ask_seating" ["a"] (sp_ask_seating K g)) : FnOk P w K mg base (L2.CX P w) 3 f fd ["self", "a"] (sp_Room_ask K g) := by
  refine F.okX sc_Room_ask (fun vs H Q E h => len_Room_ask K g vs H Q E h) (fun cdv A outer s H vs Q E hr h => ⟨t_Room_ask K g E, ?_, pure_Room_ask T.r_Room vs H Q E h⟩)
  have hu := hu_of hr
  have tkE : Takes (cxOf (L2.CX P w) P w K mg base N_Room_ask "Room.ask" (defScope s_Room_ask) f cdv A outer s H E) (wE E) := takes_of rfl rfl rfl rfl
  exact (pss_cons (ps_expr (pe_cal c_ask_seating (hr.mono (by decide)) rfl (fun σ => passAt tkE σ) (pa_cons (pv 1) pa_nil)))
    (pss_one (ps_if (pt_cmpR op_ne (pe_callB call_len_seq (by rfl) T.z_len PySem.boot_len (pa_cons (pv 1) pa_nil)) (pe_fld (pv 0) rfl) (nomark _)) (pss_one (ps_raise rfl tkE (pmk_own PySem.F.excBase_ValueError T.x_OtherSize.ex T.x_OtherSize.gC T.x_OtherSize.kC (raises_own T.x_OtherSize.bC T.x_OtherSize.tC) rfl))) pss_nil)))
theorem sc_Room_put_move : FnScope N_Room_put_move ["self", "move"] (defScope s_Room_put_move) := ⟨rfl, rfl, rfl, by decide +kernel, rfl, by decide +kernel, by decide +kernel⟩
theorem ok_Room_put_move {f : Addr} {fd : FuncData} (T : Txt K mg g) (F : Fun K "put_move" "Room.put_move" s_Room_put_move f fd) (c_Book_close : CalM P w K mg base 3 g.Book "close" ["self", "first"] (sp_Book_close K g)) (c_Book_note : CalM P w K mg base 1 g.Book "note" ["self", "step", "seating"] (sp_Book_note K g)) (c_Room_ask : CalM P w K mg base 3 g.Room "ask" ["self", "a"] (sp_Room_ask K g)) : FnOk P w K mg base (L2.CX P w) 4 f fd ["self", "move"] (sp_Room_put_move K g) := by
  refine F.okX sc_Room_put_move (fun vs H Q E h => len_Room_put_move K g vs H Q E h) (fun cdv A outer s H vs Q E hr h => ⟨t_Room_put_move K g E, ?_, pure_Room_put_move T.r_Room vs H Q E h⟩)
  have hu := hu_of hr
  have tkE : Takes (cxOf (L2.CX P w) P w K mg base N_Room_put_move "Room.put_move" (defScope s_Room_put_move) f cdv A outer s H E) (wE E) := takes_of rfl rfl rfl rfl
  exact (pss_cons (ps_expr (pe_calM (pv 0) T.cl_Room c_Room_ask (hr.mono (by decide)) (fun σ => passAt tkE σ) (pa_cons (pv 1) pa_nil)))
    (pss_cons (ps_if (pt_cmpR op_eq (pe_callB call_len_seq (by rfl) T.z_len PySem.boot_len (pa_cons (pe_fld (pv 0) rfl) pa_nil)) (pe_globI T.c_MANY) (nomark _)) (pss_one (ps_raise rfl tkE (pmk_own PySem.F.excBase_ValueError T.x_TooMany.ex T.x_TooMany.gC T.x_TooMany.kC (raises_own T.x_TooMany.bC T.x_TooMany.tC) rfl))) pss_nil)
    (pss_cons (ps_set (i := 2) sc_Room_put_move.nd rfl (Or.inl rfl) (pe_calM (pe_fld (pv 0) rfl) T.cl_Book c_Book_note (hr.mono (by decide)) (fun σ => passE0 σ) (pa_cons (pe_tup (pa_cons pe_str (pa_cons (pe_callB call_len_seq (by rfl) T.z_len PySem.boot_len (pa_cons (pe_fld (pv 0) rfl) pa_nil)) pa_nil))) (pa_cons (pv 1) pa_nil))))
    (pss_cons (ps_expr (pe_bm PySem.F.plainAttrs_list PySem.F.slot_list_append PySem.F.type_list_append mt_append (pe_fld (pv 0) rfl) (pa_cons (pv 1) pa_nil)))
    (pss_one (ps_ret (pe_calM (pe_fld (pv 0) rfl) T.cl_Book c_Book_close (hr.mono (by decide)) (fun σ => passE0 σ) (pa_cons (pv 2) pa_nil))))))))
theorem sc_L_whole : FnScope N_L_whole ["found"] (defScope s_L_whole) := ⟨rfl, rfl, rfl, by decide +kernel, rfl, by decide +kernel, by decide +kernel⟩
theorem ok_L_whole {f : Addr} {fd : FuncData} (T : Txt K mg g) (F : Fun K "_law_whole" "_law_whole" s_L_whole f fd)  : FnOk P w K mg base (L2.CX P w) 1 f fd ["found"] (sp_L_whole K g) := by
  refine F.okX sc_L_whole (fun vs H Q E h => len_L_whole K g vs H Q E h) (fun cdv A outer s H vs Q E hr h => ⟨t_L_whole K g E, ?_, pure_L_whole  vs H Q E h⟩)
  have hu := hu_of hr
  have tkE : Takes (cxOf (L2.CX P w) P w K mg base N_L_whole "_law_whole" (defScope s_L_whole) f cdv A outer s H E) (wE E) := takes_of rfl rfl rfl rfl
  exact (pss_one (ps_ret (pe_and (pe_callB call_isi (by rfl) T.z_isinstance (by decide +kernel) (pa_cons (pv 0) (pa_cons (pe_bltn (by rfl) T.z_int (by decide +kernel) rfl) pa_nil))) (pe_one (pe_not (pe_callB call_isi (by rfl) T.z_isinstance (by decide +kernel) (pa_cons (pv 0) (pa_cons (pe_bltn (by rfl) T.z_bool (by decide +kernel) rfl) pa_nil))))))))
theorem sc_Room_how_many : FnScope N_Room_how_many ["self"] (defScope s_Room_how_many) := ⟨rfl, rfl, rfl, by decide +kernel, rfl, by decide +kernel, by decide +kernel⟩
theorem ok_Room_how_many {f : Addr} {fd : FuncData} (T : Txt K mg g) (F : Fun K "how_many" "Room.how_many" s_Room_how_many f fd)  : FnOk P w K mg base (L2.CX P w) 1 f fd ["self"] (sp_Room_how_many K g) := by
  refine F.okX sc_Room_how_many (fun vs H Q E h => len_Room_how_many K g vs H Q E h) (fun cdv A outer s H vs Q E hr h => ⟨t_Room_how_many K g E, ?_, pure_Room_how_many T.r_Room T.r_Book vs H Q E h⟩)
  have hu := hu_of hr
  have tkE : Takes (cxOf (L2.CX P w) P w K mg base N_Room_how_many "Room.how_many" (defScope s_Room_how_many) f cdv A outer s H E) (wE E) := takes_of rfl rfl rfl rfl
  exact (pss_cons (ps_set (i := 1) sc_Room_how_many.nd rfl (Or.inl rfl) pe_int)
    (pss_cons (ps_for (passes_of rfl) rfl (pi_list (pe_fld (pe_fld (pv 0) rfl) rfl)) (pg_name (i := 2) sc_Room_how_many.nd rfl (Or.inl rfl)) (pss_one (ps_set (i := 1) sc_Room_how_many.nd rfl (Or.inl rfl) (pe_op op_mul (pv 1) (pe_callB call_lenD (by rfl) T.z_len PySem.boot_len (pa_cons (pv 2) pa_nil))))))
    (pss_one (ps_ret (pv 1)))))
theorem sc_Room_numbered : FnScope N_Room_numbered ["self", "n"] (defScope s_Room_numbered) := ⟨rfl, rfl, rfl, by decide +kernel, rfl, by decide +kernel, by decide +kernel⟩
theorem ok_Room_numbered {f : Addr} {fd : FuncData} (T : Txt K mg g) (F : Fun K "numbered" "Room.numbered" s_Room_numbered f fd) (c_Room_how_many : CalM P w K mg base 1 g.Room "how_many" ["self"] (sp_Room_how_many K g)) (c_joined : Cal P w K mg base 1 "joined" ["a", "b"] (sp_joined K g)) (c_rest : Cal P w K mg base 2 "rest" ["size"] (sp_rest K g)) : FnOk P w K mg base (L2.CX P w) 3 f fd ["self", "n"] (sp_Room_numbered K g) := by
  refine F.okX sc_Room_numbered (fun vs H Q E h => len_Room_numbered K g vs H Q E h) (fun cdv A outer s H vs Q E hr h => ⟨t_Room_numbered K g E, ?_, pure_Room_numbered T.r_Room T.r_Book vs H Q E h⟩)
  have hu := hu_of hr
  have tkE : Takes (cxOf (L2.CX P w) P w K mg base N_Room_numbered "Room.numbered" (defScope s_Room_numbered) f cdv A outer s H E) (wE E) := takes_of rfl rfl rfl rfl
  exact (pss_cons (ps_set (i := 2) sc_Room_numbered.nd rfl (Or.inl rfl) (pe_calM0 (pv 0) T.cl_Room c_Room_how_many (hr.mono (by decide)) (fun σ => passE0 σ)))
    (pss_cons (ps_if (PW.pt (pw_or (pt_cmpR op_lt (pv 1) pe_int (nomark _)) (pw_or1 (pt_cmpR op_ge (pv 1) (pv 2) (nomark _))))) (pss_one (ps_raise rfl tkE (pmk_own PySem.F.excBase_ValueError T.x_NoNumber.ex T.x_NoNumber.gC T.x_NoNumber.kC (raises_own T.x_NoNumber.bC T.x_NoNumber.tC) rfl))) pss_nil)
    (pss_cons (ps_set (i := 3) sc_Room_numbered.nd rfl (Or.inr rfl) (pe_cal c_rest (hr.mono (by decide)) rfl (fun σ => passAt tkE σ) (pa_cons (pe_fld (pv 0) rfl) pa_nil)))
    (pss_cons (ps_for (passes_of rfl) rfl (pi_list (pe_fld (pe_fld (pv 0) rfl) rfl)) (pg_name (i := 4) sc_Room_numbered.nd rfl (Or.inr rfl)) (pss_cons (ps_set (i := 2) sc_Room_numbered.nd rfl (Or.inl rfl) (pe_op op_fdivW (pv 2) (pe_callB call_lenD (by rfl) T.z_len PySem.boot_len (pa_cons (pv 4) pa_nil))))
    (pss_cons (ps_set (i := 5) sc_Room_numbered.nd rfl (Or.inl rfl) (pe_callB cr_sortedPO (by rfl) T.z_sorted (by decide +kernel) (pa_cons (pe_lc (own := [("k", 7)]) (g := gName 7) rfl sc_Room_numbered.nd (pi_list (pe_callTy (call_list_dK rfl) (by rfl) T.z_list (by decide +kernel) (pa_cons (pv 4) pa_nil))) (blkOk_by (own := [("k", 7)]) (N := N_Room_numbered) (sc := defScope s_Room_numbered) (by decide +kernel)) (fun _ _ _ _ _ => pg_name (i := 7) sc_Room_numbered.nd rfl (Or.inl rfl)) (fun _ _ _ _ _ => pts_nil) (fun _ _ _ _ _ => (pe_tup (pa_cons (pe_ix ix_tup (pv 3) (pv 7) (fun _ _ => rfl)) (pa_cons (pe_dget hu (pv 4) (pv 7) (fun _ _ => rfl)) pa_nil))))) pa_nil)))
    (pss_cons (ps_set (i := 6) sc_Room_numbered.nd rfl (Or.inl rfl) (pe_ix ix_tup (pe_ix ix_list (pv 5) (pe_op op_fdivW (pv 1) (pv 2)) (fun _ _ => rfl)) pe_int (fun _ _ => rfl)))
    (pss_cons (ps_set (i := 1) sc_Room_numbered.nd rfl (Or.inl rfl) (pe_op op_modN (pv 1) (pv 2)))
    (pss_one (ps_set (i := 3) sc_Room_numbered.nd rfl (Or.inr rfl) (pe_cal c_joined (hr.mono (by decide)) rfl (fun σ => passE0 σ) (pa_cons (pe_ix ix_list (pe_fld (pe_fld (pv 0) rfl) rfl) (pv 6) (fun _ _ => rfl)) (pa_cons (pv 3) pa_nil))))))))))
    (pss_one (ps_ret (pv 3)))))))
theorem sc_many_times : FnScope N_many_times ["dyes", "count"] (defScope s_many_times) := ⟨rfl, rfl, rfl, by decide +kernel, rfl, by decide +kernel, by decide +kernel⟩
theorem ok_many_times {f : Addr} {fd : FuncData} (T : Txt K mg g) (F : Fun K "many_times" "many_times" s_many_times f fd)  : FnOk P w K mg base (L2.CX P w) 1 f fd ["dyes", "count"] (sp_many_times K g) := by
  refine F.okX sc_many_times (fun vs H Q E h => len_many_times K g vs H Q E h) (fun cdv A outer s H vs Q E hr h => ⟨t_many_times K g E, ?_, pure_many_times  vs H Q E h⟩)
  have hu := hu_of hr
  have tkE : Takes (cxOf (L2.CX P w) P w K mg base N_many_times "many_times" (defScope s_many_times) f cdv A outer s H E) (wE E) := takes_of rfl rfl rfl rfl
  exact (pss_cons (ps_set (i := 2) sc_many_times.nd rfl (Or.inl rfl) pe_int)
    (pss_cons (ps_for (passes_of rfl) rfl (pi_range1 (by rfl) T.z_range (pa_cons (pv 1) pa_nil)) (pg_name (i := 3) sc_many_times.nd rfl (Or.inl rfl)) (pss_one (ps_set (i := 2) sc_many_times.nd rfl (Or.inl rfl) (pe_op op_mul (pv 2) (pv 0)))))
    (pss_one (ps_ret (pv 2)))))
theorem sc_rings : FnScope N_rings ["a"] (defScope s_rings) := ⟨rfl, rfl, rfl, by decide +kernel, rfl, by decide +kernel, by decide +kernel⟩
theorem ok_rings {f : Addr} {fd : FuncData} (T : Txt K mg g) (F : Fun K "rings" "rings" s_rings f fd) (c_ask_seating : Cal P w K mg base 2 "ask_seating" ["a"] (sp_ask_seating K g)) : FnOk P w K mg base (L2.CX P w) 3 f fd ["a"] (sp_rings K g) := by
  refine F.okX sc_rings (fun vs H Q E h => len_rings K g vs H Q E h) (fun cdv A outer s H vs Q E hr h => ⟨t_rings K g E, ?_, pure_rings  vs H Q E h⟩)
  have hu := hu_of hr
  have tkE : Takes (cxOf (L2.CX P w) P w K mg base N_rings "rings" (defScope s_rings) f cdv A outer s H E) (wE E) := takes_of rfl rfl rfl rfl
  exact (pss_cons (ps_expr (pe_cal c_ask_seating (hr.mono (by decide)) rfl (fun σ => passAt tkE σ) (pa_cons (pv 0) pa_nil)))
    (pss_cons (ps_set (i := 1) sc_rings.nd rfl (Or.inl rfl) (pe_lst pa_nil))
    (pss_cons (ps_set (i := 2) sc_rings.nd rfl (Or.inl rfl) pe_dnewK)
    (pss_cons (ps_for (passes_of rfl) rfl (pi_range1 (by rfl) T.z_range (pa_cons (pe_callB call_len_seq (by rfl) T.z_len PySem.boot_len (pa_cons (pv 0) pa_nil)) pa_nil)) (pg_name (i := 3) sc_rings.nd rfl (Or.inl rfl)) (pss_one (ps_if (pt_cmp (pc_dnotin hu (pv 3) (pv 2))) (pss_cons (ps_set (i := 4) sc_rings.nd rfl (Or.inl rfl) (pe_lst (pa_cons (pv 3) pa_nil)))
    (pss_cons (ps_set (i := 5) sc_rings.nd rfl (Or.inl rfl) (pe_ix ix_tup (pv 0) (pv 3) (fun _ _ => rfl)))
    (pss_cons (ps_while (passes_of rfl) (pt_cmpR op_ne (pv 5) (pv 3) (nomark _)) (pss_cons (ps_expr (pe_bm PySem.F.plainAttrs_list PySem.F.slot_list_append PySem.F.type_list_append mt_append (pv 4) (pa_cons (pv 5) pa_nil)))
    (pss_cons (ps_dput hu (pv 2) (pv 5) pe_bl rfl)
    (pss_one (ps_set (i := 5) sc_rings.nd rfl (Or.inl rfl) (pe_ix ix_tup (pv 0) (pv 5) (fun _ _ => rfl)))))))
    (pss_one (ps_if (pt_cmpR op_gt (pe_callB call_len_seq (by rfl) T.z_len PySem.boot_len (pa_cons (pv 4) pa_nil)) pe_int (nomark _)) (pss_one (ps_expr (pe_bm PySem.F.plainAttrs_list PySem.F.slot_list_append PySem.F.type_list_append mt_append (pv 1) (pa_cons (pe_callTy call_tuple_of (by rfl) T.z_tuple (by decide +kernel) (pa_cons (pv 4) pa_nil)) pa_nil)))) pss_nil))))) pss_nil)))
    (pss_one (ps_ret (pv 1)))))))
theorem sc_dyed : FnScope N_dyed ["room", "dyes"] (defScope s_dyed) := ⟨rfl, rfl, rfl, by decide +kernel, rfl, by decide +kernel, by decide +kernel⟩
theorem ok_dyed {f : Addr} {fd : FuncData} (T : Txt K mg g) (F : Fun K "dyed" "dyed" s_dyed f fd) (c_Room_how_many : CalM P w K mg base 1 g.Room "how_many" ["self"] (sp_Room_how_many K g)) (c_Room_numbered : CalM P w K mg base 3 g.Room "numbered" ["self", "n"] (sp_Room_numbered K g)) (c_many_times : Cal P w K mg base 1 "many_times" ["dyes", "count"] (sp_many_times K g)) (c_rings : Cal P w K mg base 3 "rings" ["a"] (sp_rings K g)) : FnOk P w K mg base (L2.CX P w) 4 f fd ["room", "dyes"] (sp_dyed K g) := by
  refine F.okX sc_dyed (fun vs H Q E h => len_dyed K g vs H Q E h) (fun cdv A outer s H vs Q E hr h => ⟨t_dyed K g E, ?_, pure_dyed T.r_Room T.r_Book vs H Q E h⟩)
  have hu := hu_of hr
  have tkE : Takes (cxOf (L2.CX P w) P w K mg base N_dyed "dyed" (defScope s_dyed) f cdv A outer s H E) (wE E) := takes_of rfl rfl rfl rfl
  exact (pss_cons (ps_if (PW.pt (pw_or (pt_cmpR op_lt (pv 1) pe_int (nomark _)) (pw_or1 (pt_cmpR op_gt (pv 1) pe_int (nomark _))))) (pss_one (ps_raise rfl tkE (pmk_own PySem.F.excBase_ValueError T.x_NoNumber.ex T.x_NoNumber.gC T.x_NoNumber.kC (raises_own T.x_NoNumber.bC T.x_NoNumber.tC) rfl))) pss_nil)
    (pss_cons (ps_set (i := 2) sc_dyed.nd rfl (Or.inl rfl) (pe_calM0 (pv 0) T.cl_Room c_Room_how_many (hr.mono (by decide)) (fun σ => passE0 σ)))
    (pss_cons (ps_if (pt_cmpR op_gt (pv 2) (pe_globI T.c_WIDE) (nomark _)) (pss_one (ps_raise rfl tkE (pmk_own PySem.F.excBase_ValueError T.x_TooWide.ex T.x_TooWide.gC T.x_TooWide.kC (raises_own T.x_TooWide.bC T.x_TooWide.tC) rfl))) pss_nil)
    (pss_cons (ps_set (i := 3) sc_dyed.nd rfl (Or.inl rfl) pe_int)
    (pss_cons (ps_for (passes_of rfl) rfl (pi_range1 (by rfl) T.z_range (pa_cons (pv 2) pa_nil)) (pg_name (i := 4) sc_dyed.nd rfl (Or.inl rfl)) (pss_cons (ps_set (i := 5) sc_dyed.nd rfl (Or.inl rfl) (pe_fld (pv 0) rfl))
    (pss_cons (ps_for (passes_of rfl) rfl (pi_list (pe_cal c_rings (hr.mono (by decide)) rfl (fun σ => passAt tkE σ) (pa_cons (pe_calM (pv 0) T.cl_Room c_Room_numbered (hr.mono (by decide)) (fun σ => passAt tkE σ) (pa_cons (pv 4) pa_nil)) pa_nil))) (pg_name (i := 6) sc_dyed.nd rfl (Or.inl rfl)) (pss_one (ps_set (i := 5) sc_dyed.nd rfl (Or.inl rfl) (pe_op op_add (pe_op op_sub (pv 5) (pe_callB call_len_seq (by rfl) T.z_len PySem.boot_len (pa_cons (pv 6) pa_nil))) pe_int))))
    (pss_one (ps_set (i := 3) sc_dyed.nd rfl (Or.inl rfl) (pe_op op_add (pv 3) (pe_cal c_many_times (hr.mono (by decide)) rfl (fun σ => passE0 σ) (pa_cons (pv 1) (pa_cons (pv 5) pa_nil)))))))))
    (pss_one (ps_ret (pe_op op_fdivW (pv 3) (pv 2)))))))))
theorem sc_L_all_alike : FnScope N_L_all_alike ["size", "dyes"] (defScope s_L_all_alike) := ⟨rfl, rfl, rfl, by decide +kernel, rfl, by decide +kernel, by decide +kernel⟩
theorem ok_L_all_alike {f : Addr} {fd : FuncData} (T : Txt K mg g) (F : Fun K "_law_all_alike" "_law_all_alike" s_L_all_alike f fd) (c_Room_init : CalI P w K mg base 5 g.Room ["self", "size"] (sp_Room_init K g)) (c_Room_put_move : CalM P w K mg base 4 g.Room "put_move" ["self", "move"] (sp_Room_put_move K g)) (c_L_whole : Cal P w K mg base 1 "_law_whole" ["found"] (sp_L_whole K g)) (c_dyed : Cal P w K mg base 4 "dyed" ["room", "dyes"] (sp_dyed K g)) : FnOk P w K mg base (L2.CX P w) 7 f fd ["size", "dyes"] (sp_L_all_alike K g) := by
  refine F.okX sc_L_all_alike (fun vs H Q E h => len_L_all_alike K g vs H Q E h) (fun cdv A outer s H vs Q E hr h => ⟨t_L_all_alike K g E, ?_, pure_L_all_alike  vs H Q E h⟩)
  have hu := hu_of hr
  have tkE : Takes (cxOf (L2.CX P w) P w K mg base N_L_all_alike "_law_all_alike" (defScope s_L_all_alike) f cdv A outer s H E) (wE E) := takes_of rfl rfl rfl rfl
  exact (pss_cons (ps_set (i := 2) sc_L_all_alike.nd rfl (Or.inl rfl) (pe_mk c_Room_init (hr.mono (by decide)) rfl T.g_Room (fun σ => passAt tkE σ) (pa_cons (pv 0) pa_nil)))
    (pss_cons (ps_expr (pe_calM (pv 2) T.cl_Room c_Room_put_move (hr.mono (by decide)) (fun σ => passAt tkE σ) (pa_cons (pe_callTy call_tuple_of (by rfl) T.z_tuple (by decide +kernel) (pa_cons (pe_op op_cat (pe_lst (pa_cons pe_int (pa_cons pe_int pa_nil))) (pe_listRg rfl (by rfl) T.z_list (prg_2 (by rfl) T.z_range pe_int (pv 0)))) pa_nil)) pa_nil)))
    (pss_cons (ps_expr (pe_calM (pv 2) T.cl_Room c_Room_put_move (hr.mono (by decide)) (fun σ => passAt tkE σ) (pa_cons (pe_callTy call_tuple_of (by rfl) T.z_tuple (by decide +kernel) (pa_cons (pe_op op_cat (pe_listRg rfl (by rfl) T.z_list (prg_2 (by rfl) T.z_range pe_int (pv 0))) (pe_lst (pa_cons pe_int pa_nil))) pa_nil)) pa_nil)))
    (pss_cons (ps_set (i := 3) sc_L_all_alike.nd rfl (Or.inl rfl) pe_int)
    (pss_cons (ps_for (passes_of rfl) rfl (pi_range1 (by rfl) T.z_range (pa_cons (pv 0) pa_nil)) (pg_name (i := 4) sc_L_all_alike.nd rfl (Or.inl rfl)) (pss_one (ps_set (i := 3) sc_L_all_alike.nd rfl (Or.inl rfl) (pe_op op_fdivW (pe_op op_mul (pv 3) (pe_op op_add (pv 1) (pv 4))) (pe_op op_add (pv 4) pe_int)))))
    (pss_cons (ps_set (i := 5) sc_L_all_alike.nd rfl (Or.inl rfl) (pe_cal c_dyed (hr.mono (by decide)) rfl (fun σ => passAt tkE σ) (pa_cons (pv 2) (pa_cons (pv 1) pa_nil))))
    (pss_one (ps_ret (pe_and (pe_cal c_L_whole (hr.mono (by decide)) rfl (fun σ => passE0 σ) (pa_cons (pv 5) pa_nil)) (pe_one (pe_cmpR op_eq (pv 5) (pv 3) (nomark _))))))))))))
theorem sc_L_cell_at : FnScope N_L_cell_at ["script", "k"] (defScope s_L_cell_at) := ⟨rfl, rfl, rfl, by decide +kernel, rfl, by decide +kernel, by decide +kernel⟩
theorem ok_L_cell_at {f : Addr} {fd : FuncData} (T : Txt K mg g) (F : Fun K "_law_cell_at" "_law_cell_at" s_L_cell_at f fd)  : FnOk P w K mg base (L2.CX P w) 1 f fd ["script", "k"] (sp_L_cell_at K g) := by
  refine F.okX sc_L_cell_at (fun vs H Q E h => len_L_cell_at K g vs H Q E h) (fun cdv A outer s H vs Q E hr h => ⟨t_L_cell_at K g E, ?_, pure_L_cell_at  vs H Q E h⟩)
  have hu := hu_of hr
  have tkE : Takes (cxOf (L2.CX P w) P w K mg base N_L_cell_at "_law_cell_at" (defScope s_L_cell_at) f cdv A outer s H E) (wE E) := takes_of rfl rfl rfl rfl
  exact (pss_cons (ps_if (pt_cmpR op_lt (pv 1) (pe_callB call_len_seq (by rfl) T.z_len PySem.boot_len (pa_cons (pv 0) pa_nil)) (nomark _)) (pss_one (ps_ret (pe_ix ix_list (pv 0) (pv 1) (fun _ _ => rfl)))) pss_nil)
    (pss_one (ps_ret pe_int)))
theorem sc_L_dyeing : FnScope N_L_dyeing ["n", "dyes", "size"] (defScope s_L_dyeing) := ⟨rfl, rfl, rfl, by decide +kernel, rfl, by decide +kernel, by decide +kernel⟩
theorem ok_L_dyeing {f : Addr} {fd : FuncData} (T : Txt K mg g) (F : Fun K "_law_dyeing" "_law_dyeing" s_L_dyeing f fd)  : FnOk P w K mg base (L2.CX P w) 1 f fd ["n", "dyes", "size"] (sp_L_dyeing K g) := by
  refine F.okX sc_L_dyeing (fun vs H Q E h => len_L_dyeing K g vs H Q E h) (fun cdv A outer s H vs Q E hr h => ⟨t_L_dyeing K g E, ?_, pure_L_dyeing  vs H Q E h⟩)
  have hu := hu_of hr
  have tkE : Takes (cxOf (L2.CX P w) P w K mg base N_L_dyeing "_law_dyeing" (defScope s_L_dyeing) f cdv A outer s H E) (wE E) := takes_of rfl rfl rfl rfl
  exact (pss_cons (ps_set (i := 3) sc_L_dyeing.nd rfl (Or.inl rfl) (pe_lst pa_nil))
    (pss_cons (ps_for (passes_of rfl) rfl (pi_range1 (by rfl) T.z_range (pa_cons (pv 2) pa_nil)) (pg_name (i := 4) sc_L_dyeing.nd rfl (Or.inl rfl)) (pss_cons (ps_expr (pe_bm PySem.F.plainAttrs_list PySem.F.slot_list_append PySem.F.type_list_append mt_append (pv 3) (pa_cons (pe_op op_modN (pv 0) (pv 1)) pa_nil)))
    (pss_one (ps_set (i := 0) sc_L_dyeing.nd rfl (Or.inl rfl) (pe_op op_fdivW (pv 0) (pv 1))))))
    (pss_one (ps_ret (pv 3)))))
theorem sc_L_moved : FnScope N_L_moved ["row", "a"] (defScope s_L_moved) := ⟨rfl, rfl, rfl, by decide +kernel, rfl, by decide +kernel, by decide +kernel⟩
theorem ok_L_moved {f : Addr} {fd : FuncData} (T : Txt K mg g) (F : Fun K "_law_moved" "_law_moved" s_L_moved f fd)  : FnOk P w K mg base (L2.CX P w) 1 f fd ["row", "a"] (sp_L_moved K g) := by
  refine F.okX sc_L_moved (fun vs H Q E h => len_L_moved K g vs H Q E h) (fun cdv A outer s H vs Q E hr h => ⟨t_L_moved K g E, ?_, pure_L_moved  vs H Q E h⟩)
  have hu := hu_of hr
  have tkE : Takes (cxOf (L2.CX P w) P w K mg base N_L_moved "_law_moved" (defScope s_L_moved) f cdv A outer s H E) (wE E) := takes_of rfl rfl rfl rfl
  exact (pss_cons (ps_set (i := 2) sc_L_moved.nd rfl (Or.inl rfl) (pe_op op_rep (pe_lst (pa_cons pe_int pa_nil)) (pe_callB call_len_seq (by rfl) T.z_len PySem.boot_len (pa_cons (pv 0) pa_nil))))
    (pss_cons (ps_for (passes_of rfl) rfl (pi_range1 (by rfl) T.z_range (pa_cons (pe_callB call_len_seq (by rfl) T.z_len PySem.boot_len (pa_cons (pv 0) pa_nil)) pa_nil)) (pg_name (i := 3) sc_L_moved.nd rfl (Or.inl rfl)) (pss_one (ps_asg (pe_ix ix_list (pv 0) (pv 3) (fun _ _ => rfl)) (pg_sub (pv 2) (pe_ix ix_tup (pv 1) (pv 3) (fun _ _ => rfl)) set_list))))
    (pss_one (ps_ret (pv 2)))))
theorem sc_L_counted : FnScope N_L_counted ["reached", "dyes", "size"] (defScope s_L_counted) := ⟨rfl, rfl, rfl, by decide +kernel, rfl, by decide +kernel, by decide +kernel⟩
theorem ok_L_counted {f : Addr} {fd : FuncData} (T : Txt K mg g) (F : Fun K "_law_counted" "_law_counted" s_L_counted f fd) (c_L_dyeing : Cal P w K mg base 1 "_law_dyeing" ["n", "dyes", "size"] (sp_L_dyeing K g)) (c_L_moved : Cal P w K mg base 1 "_law_moved" ["row", "a"] (sp_L_moved K g)) : FnOk P w K mg base (L2.CX P w) 2 f fd ["reached", "dyes", "size"] (sp_L_counted K g) := by
  refine F.okX sc_L_counted (fun vs H Q E h => len_L_counted K g vs H Q E h) (fun cdv A outer s H vs Q E hr h => ⟨t_L_counted K g E, ?_, pure_L_counted  vs H Q E h⟩)
  have hu := hu_of hr
  have tkE : Takes (cxOf (L2.CX P w) P w K mg base N_L_counted "_law_counted" (defScope s_L_counted) f cdv A outer s H E) (wE E) := takes_of rfl rfl rfl rfl
  exact (pss_cons (ps_set (i := 3) sc_L_counted.nd rfl (Or.inl rfl) pe_int)
    (pss_cons (ps_for (passes_of rfl) rfl (pi_range1 (by rfl) T.z_range (pa_cons (pv 2) pa_nil)) (pg_name (i := 4) sc_L_counted.nd rfl (Or.inl rfl)) (pss_one (ps_set (i := 3) sc_L_counted.nd rfl (Or.inl rfl) (pe_op op_mul (pv 3) (pv 1)))))
    (pss_cons (ps_set (i := 5) sc_L_counted.nd rfl (Or.inl rfl) pe_int)
    (pss_cons (ps_for (passes_of rfl) rfl (pi_range1 (by rfl) T.z_range (pa_cons (pv 3) pa_nil)) (pg_name (i := 6) sc_L_counted.nd rfl (Or.inl rfl)) (pss_cons (ps_set (i := 7) sc_L_counted.nd rfl (Or.inr rfl) (pe_cal c_L_dyeing (hr.mono (by decide)) rfl (fun σ => passE0 σ) (pa_cons (pv 6) (pa_cons (pv 1) (pa_cons (pv 2) pa_nil)))))
    (pss_one (ps_if (pt_cmpR (op_eqD hr.units) (pe_callB (call_minLL rfl (by have := hr.un; exact Nat.lt_of_le_of_lt (Nat.add_le_add_left (by decide) _) this)) (by rfl) T.z_min (by decide +kernel) (pa_cons (pe_lc (own := [("a", 8)]) (g := gName 8) rfl sc_L_counted.nd (pi_list (pv 0)) (blkOk_by (own := [("a", 8)]) (N := N_L_counted) (sc := defScope s_L_counted) (by decide +kernel)) (fun _ _ _ _ _ => pg_name (i := 8) sc_L_counted.nd rfl (Or.inl rfl)) (fun _ _ _ _ _ => pts_nil) (fun _ _ _ _ _ => (pe_cal c_L_moved (hr.mono (by decide)) rfl (fun σ => passE0 σ) (pa_cons (pv 7) (pa_cons (pv 8) pa_nil))))) pa_nil)) (pv 7) (nomark _)) (pss_one (ps_set (i := 5) sc_L_counted.nd rfl (Or.inl rfl) (pe_op op_add (pv 5) pe_int))) pss_nil))))
    (pss_one (ps_ret (pv 5)))))))
theorem sc_L_just : FnScope N_L_just [] (defScope s_L_just) := ⟨rfl, rfl, rfl, by decide +kernel, rfl, by decide +kernel, by decide +kernel⟩
theorem ok_L_just {f : Addr} {fd : FuncData} (T : Txt K mg g) (F : Fun K "_law_just" "_law_just" s_L_just f fd) (c_Room_init : CalI P w K mg base 5 g.Room ["self", "size"] (sp_Room_init K g)) (c_Room_put_move : CalM P w K mg base 4 g.Room "put_move" ["self", "move"] (sp_Room_put_move K g)) (c_L_whole : Cal P w K mg base 1 "_law_whole" ["found"] (sp_L_whole K g)) (c_dyed : Cal P w K mg base 4 "dyed" ["room", "dyes"] (sp_dyed K g)) : FnOk P w K mg base (L2.CX P w) 7 f fd [] (sp_L_just K g) := by
  refine F.okX sc_L_just (fun vs H Q E h => len_L_just K g vs H Q E h) (fun cdv A outer s H vs Q E hr h => ⟨t_L_just K g E, ?_, pure_L_just  vs H Q E h⟩)
  have hu := hu_of hr
  have tkE : Takes (cxOf (L2.CX P w) P w K mg base N_L_just "_law_just" (defScope s_L_just) f cdv A outer s H E) (wE E) := takes_of rfl rfl rfl rfl
  exact (pss_cons (ps_set (i := 0) sc_L_just.nd rfl (Or.inl rfl) (pe_mk c_Room_init (hr.mono (by decide)) rfl T.g_Room (fun σ => passAt tkE σ) (pa_cons pe_int pa_nil)))
    (pss_cons (ps_set (i := 1) sc_L_just.nd rfl (Or.inl rfl) (pe_listRg rfl (by rfl) T.z_list (prg_1 (by rfl) T.z_range pe_int)))
    (pss_cons (ps_expr (pe_calM (pv 0) T.cl_Room c_Room_put_move (hr.mono (by decide)) (fun σ => passAt tkE σ) (pa_cons (pe_callTy call_tuple_of (by rfl) T.z_tuple (by decide +kernel) (pa_cons (pe_op op_cat (pe_lst (pa_cons pe_int (pa_cons pe_int (pa_cons pe_int (pa_cons pe_int (pa_cons pe_int pa_nil)))))) (pe_slice sl_list (pv 1) (po_some pe_int) po_none)) pa_nil)) pa_nil)))
    (pss_cons (ps_expr (pe_calM (pv 0) T.cl_Room c_Room_put_move (hr.mono (by decide)) (fun σ => passAt tkE σ) (pa_cons (pe_callTy call_tuple_of (by rfl) T.z_tuple (by decide +kernel) (pa_cons (pe_op op_cat (pe_lst (pa_cons pe_int (pa_cons pe_int (pa_cons pe_int (pa_cons pe_int (pa_cons pe_int pa_nil)))))) (pe_slice sl_list (pv 1) (po_some pe_int) po_none)) pa_nil)) pa_nil)))
    (pss_cons (ps_expr (pe_calM (pv 0) T.cl_Room c_Room_put_move (hr.mono (by decide)) (fun σ => passAt tkE σ) (pa_cons (pe_callTy call_tuple_of (by rfl) T.z_tuple (by decide +kernel) (pa_cons (pe_op op_cat (pe_op op_cat (pe_slice sl_list (pv 1) po_none (po_some pe_int)) (pe_lst (pa_cons pe_int (pa_cons pe_int (pa_cons pe_int (pa_cons pe_int (pa_cons pe_int pa_nil))))))) (pe_slice sl_list (pv 1) (po_some pe_int) po_none)) pa_nil)) pa_nil)))
    (pss_cons (ps_expr (pe_calM (pv 0) T.cl_Room c_Room_put_move (hr.mono (by decide)) (fun σ => passAt tkE σ) (pa_cons (pe_callTy call_tuple_of (by rfl) T.z_tuple (by decide +kernel) (pa_cons (pe_op op_cat (pe_op op_cat (pe_slice sl_list (pv 1) po_none (po_some pe_int)) (pe_lst (pa_cons pe_int (pa_cons pe_int (pa_cons pe_int (pa_cons pe_int (pa_cons pe_int pa_nil))))))) (pe_slice sl_list (pv 1) (po_some pe_int) po_none)) pa_nil)) pa_nil)))
    (pss_cons (ps_expr (pe_calM (pv 0) T.cl_Room c_Room_put_move (hr.mono (by decide)) (fun σ => passAt tkE σ) (pa_cons (pe_callTy call_tuple_of (by rfl) T.z_tuple (by decide +kernel) (pa_cons (pe_op op_cat (pe_slice sl_list (pv 1) po_none (po_some pe_int)) (pe_lst (pa_cons pe_int (pa_cons pe_int (pa_cons pe_int (pa_cons pe_int (pa_cons pe_int pa_nil))))))) pa_nil)) pa_nil)))
    (pss_cons (ps_set (i := 2) sc_L_just.nd rfl (Or.inl rfl) (pe_cal c_dyed (hr.mono (by decide)) rfl (fun σ => passAt tkE σ) (pa_cons (pv 0) (pa_cons pe_int pa_nil))))
    (pss_one (ps_ret (pe_and (pe_cal c_L_whole (hr.mono (by decide)) rfl (fun σ => passE0 σ) (pa_cons (pv 2) pa_nil)) (pe_one (pe_cmpR op_eq (pv 2) pe_int (nomark _))))))))))))))
theorem sc_L_joined : FnScope N_L_joined ["a", "b"] (defScope s_L_joined) := ⟨rfl, rfl, rfl, by decide +kernel, rfl, by decide +kernel, by decide +kernel⟩
theorem ok_L_joined {f : Addr} {fd : FuncData} (T : Txt K mg g) (F : Fun K "_law_joined" "_law_joined" s_L_joined f fd)  : FnOk P w K mg base (L2.CX P w) 1 f fd ["a", "b"] (sp_L_joined K g) := by
  refine F.okX sc_L_joined (fun vs H Q E h => len_L_joined K g vs H Q E h) (fun cdv A outer s H vs Q E hr h => ⟨t_L_joined K g E, ?_, pure_L_joined  vs H Q E h⟩)
  have hu := hu_of hr
  have tkE : Takes (cxOf (L2.CX P w) P w K mg base N_L_joined "_law_joined" (defScope s_L_joined) f cdv A outer s H E) (wE E) := takes_of rfl rfl rfl rfl
  exact (pss_one (ps_ret (pe_callTy call_tuple_of (by rfl) T.z_tuple (by decide +kernel) (pa_cons (pe_lc (own := [("k", 2)]) (g := gName 2) rfl sc_L_joined.nd (pi_tup (pv 0)) (blkOk_by (own := [("k", 2)]) (N := N_L_joined) (sc := defScope s_L_joined) (by decide +kernel)) (fun _ _ _ _ _ => pg_name (i := 2) sc_L_joined.nd rfl (Or.inl rfl)) (fun _ _ _ _ _ => pts_nil) (fun _ _ _ _ _ => (pe_ix ix_tup (pv 1) (pv 2) (fun _ _ => rfl)))) pa_nil))))
theorem sc_L_reached : FnScope N_L_reached ["moves", "size"] (defScope s_L_reached) := ⟨rfl, rfl, rfl, by decide +kernel, rfl, by decide +kernel, by decide +kernel⟩
theorem ok_L_reached {f : Addr} {fd : FuncData} (T : Txt K mg g) (F : Fun K "_law_reached" "_law_reached" s_L_reached f fd) (c_L_joined : Cal P w K mg base 1 "_law_joined" ["a", "b"] (sp_L_joined K g)) : FnOk P w K mg base (L2.CX P w) 2 f fd ["moves", "size"] (sp_L_reached K g) := by
  refine F.okX sc_L_reached (fun vs H Q E h => len_L_reached K g vs H Q E h) (fun cdv A outer s H vs Q E hr h => ⟨t_L_reached K g E, ?_, pure_L_reached  vs H Q E h⟩)
  have hu := hu_of hr
  have tkE : Takes (cxOf (L2.CX P w) P w K mg base N_L_reached "_law_reached" (defScope s_L_reached) f cdv A outer s H E) (wE E) := takes_of rfl rfl rfl rfl
  exact (pss_cons (ps_set (i := 2) sc_L_reached.nd rfl (Or.inl rfl) (pe_lst (pa_cons (pe_tupRg rfl (by rfl) T.z_tuple (prg_1 (by rfl) T.z_range (pv 1))) pa_nil)))
    (pss_cons (ps_set (i := 3) sc_L_reached.nd rfl (Or.inl rfl) pe_int)
    (pss_cons (ps_while (passes_of rfl) (pt_cmpR op_lt (pv 3) (pe_callB call_len_seq (by rfl) T.z_len PySem.boot_len (pa_cons (pv 2) pa_nil)) (nomark _)) (pss_cons (ps_for (passes_of rfl) rfl (pi_list (pv 0)) (pg_name (i := 4) sc_L_reached.nd rfl (Or.inl rfl)) (pss_cons (ps_set (i := 5) sc_L_reached.nd rfl (Or.inl rfl) (pe_cal c_L_joined (hr.mono (by decide)) rfl (fun σ => passE0 σ) (pa_cons (pe_ix ix_list (pv 2) (pv 3) (fun _ _ => rfl)) (pa_cons (pv 4) pa_nil))))
    (pss_one (ps_if (pt_cmpR (op_notInD (hu65 hr)) (pv 5) (pv 2) (by rfl)) (pss_one (ps_expr (pe_bm PySem.F.plainAttrs_list PySem.F.slot_list_append PySem.F.type_list_append mt_append (pv 2) (pa_cons (pv 5) pa_nil)))) pss_nil))))
    (pss_one (ps_set (i := 3) sc_L_reached.nd rfl (Or.inl rfl) (pe_op op_add (pv 3) pe_int)))))
    (pss_one (ps_ret (pv 2))))))
theorem sc_L_refused_k19 : FnScope N_L_refused_k19 ["room", "dyes"] (defScope s_L_refused_k19) := ⟨rfl, rfl, rfl, by decide +kernel, rfl, by decide +kernel, by decide +kernel⟩
theorem ok_L_refused_k19 {f : Addr} {fd : FuncData} (T : Txt K mg g) (F : Fun K "_law_refused" "_law_refused" s_L_refused_k19 f fd) (c_dyed : Cal P w K mg base 4 "dyed" ["room", "dyes"] (sp_dyed K g)) : FnOk P w K mg base (L2.CX P w) 5 f fd ["room", "dyes"] (sp_L_refused_k19 K g) := by
  refine F.okX sc_L_refused_k19 (fun vs H Q E h => len_L_refused_k19 K g vs H Q E h) (fun cdv A outer s H vs Q E hr h => ⟨t_L_refused_k19 K g E, ?_, pure_L_refused_k19 T.m_NoNumber_RoomError T.m_TooWide_RoomError T.e_NoNumber T.e_TooWide T.k_NoNumber_NoNumber T.k_NoNumber_TooWide T.k_NoNumber_ValueError T.k_TooWide_NoNumber T.k_TooWide_TooWide T.k_TooWide_ValueError vs H Q E h⟩)
  have hu := hu_of hr
  have tkE : Takes (cxOf (L2.CX P w) P w K mg base N_L_refused_k19 "_law_refused" (defScope s_L_refused_k19) f cdv A outer s H E) (wE E) := takes_of rfl rfl rfl rfl
  exact (pss_cons (ps_set (i := 2) sc_L_refused_k19.nd rfl (Or.inl rfl) pe_non)
    (pss_cons (ps_try_as (i := 3) (tb := fun W => (tDrop (tCallS (sp_dyed K g) (WE W) (tCons (tVar 0) (tCons (tVar 1) tNil))))) (ts := fun a cls d => (tAsg (tTup (tCons (tCB (rIsE2 K cls d a) (tCons (tVar 3) (tCons (tC (.ref g.NoNumber)) tNil))) (tCons (tCB (rIsE2 K cls d a) (tCons (tVar 3) (tCons (tC (.ref g.TooWide)) tNil))) (tCons (tCB (rIsE2 K cls d a) (tCons (tVar 3) (tCons (tC (.ty "ValueError")) tNil))) tNil)))) (gName 2))) (Wout := wE E) rfl rfl sc_L_refused_k19.nd rfl rfl ⟨rfl, by decide, .inl T.g_RoomError⟩ tkE (fun W pn xe tk po => (pss_one (ps_expr (pe_cal c_dyed (hr.mono (by decide)) rfl (fun σ => passAt tk σ) (pa_cons (pv 0) (pa_cons (pv 1) pa_nil)))))) (fun a oe cls d pn hz hf => (pss_one (ps_set (i := 2) sc_L_refused_k19.nd rfl (Or.inl rfl) (pe_tup (pa_cons (pe_callB (call_isE2 hz hf) (by rfl) T.z_isinstance (by decide +kernel) (pa_cons (pv 3) (pa_cons (pe_glob rfl T.g_NoNumber rfl) pa_nil))) (pa_cons (pe_callB (call_isE2 hz hf) (by rfl) T.z_isinstance (by decide +kernel) (pa_cons (pv 3) (pa_cons (pe_glob rfl T.g_TooWide rfl) pa_nil))) (pa_cons (pe_callB (call_isE2 hz hf) (by rfl) T.z_isinstance (by decide +kernel) (pa_cons (pv 3) (pa_cons (pe_bltn (by rfl) T.z_ValueError (by decide +kernel) rfl) pa_nil))) pa_nil))))))))
    (pss_one (ps_ret (pv 2)))))
theorem sc_L_seating : FnScope N_L_seating ["cell", "size"] (defScope s_L_seating) := ⟨rfl, rfl, rfl, by decide +kernel, rfl, by decide +kernel, by decide +kernel⟩
theorem ok_L_seating {f : Addr} {fd : FuncData} (T : Txt K mg g) (F : Fun K "_law_seating" "_law_seating" s_L_seating f fd)  : FnOk P w K mg base (L2.CX P w) 1 f fd ["cell", "size"] (sp_L_seating K g) := by
  refine F.okX sc_L_seating (fun vs H Q E h => len_L_seating K g vs H Q E h) (fun cdv A outer s H vs Q E hr h => ⟨t_L_seating K g E, ?_, pure_L_seating  vs H Q E h⟩)
  have hu := hu_of hr
  have tkE : Takes (cxOf (L2.CX P w) P w K mg base N_L_seating "_law_seating" (defScope s_L_seating) f cdv A outer s H E) (wE E) := takes_of rfl rfl rfl rfl
  exact (pss_cons (ps_set (i := 2) sc_L_seating.nd rfl (Or.inl rfl) (pe_listRg rfl (by rfl) T.z_list (prg_1 (by rfl) T.z_range (pv 1))))
    (pss_cons (ps_set (i := 3) sc_L_seating.nd rfl (Or.inl rfl) (pe_lst pa_nil))
    (pss_cons (ps_for (passes_of rfl) rfl (pi_range1 (by rfl) T.z_range (pa_cons (pv 1) pa_nil)) (pg_name (i := 4) sc_L_seating.nd rfl (Or.inl rfl)) (pss_cons (ps_expr (pe_bm PySem.F.plainAttrs_list PySem.F.slot_list_append PySem.F.type_list_append mt_append (pv 3) (pa_cons (pe_bm PySem.F.plainAttrs_list PySem.F.slot_list_pop PySem.F.type_list_pop mt_popAt (pv 2) (pa_cons (pe_op op_modN (pv 0) (pe_op op_sub (pv 1) (pv 4))) pa_nil)) pa_nil)))
    (pss_one (ps_set (i := 0) sc_L_seating.nd rfl (Or.inl rfl) (pe_op op_fdivW (pv 0) (pe_op op_sub (pv 1) (pv 4)))))))
    (pss_one (ps_ret (pe_callTy call_tuple_of (by rfl) T.z_tuple (by decide +kernel) (pa_cons (pv 3) pa_nil)))))))
theorem sc_L_wide_k19 : FnScope N_L_wide_k19 ["cell", "far"] (defScope s_L_wide_k19) := ⟨rfl, rfl, rfl, by decide +kernel, rfl, by decide +kernel, by decide +kernel⟩
theorem ok_L_wide_k19 {f : Addr} {fd : FuncData} (T : Txt K mg g) (F : Fun K "_law_wide" "_law_wide" s_L_wide_k19 f fd) (c_Room_init : CalI P w K mg base 5 g.Room ["self", "size"] (sp_Room_init K g)) (c_Room_put_move : CalM P w K mg base 4 g.Room "put_move" ["self", "move"] (sp_Room_put_move K g)) (c_L_refused_k19 : Cal P w K mg base 5 "_law_refused" ["room", "dyes"] (sp_L_refused_k19 K g)) : FnOk P w K mg base (L2.CX P w) 7 f fd ["cell", "far"] (sp_L_wide_k19 K g) := by
  refine F.okX sc_L_wide_k19 (fun vs H Q E h => len_L_wide_k19 K g vs H Q E h) (fun cdv A outer s H vs Q E hr h => ⟨t_L_wide_k19 K g E, ?_, pure_L_wide_k19  vs H Q E h⟩)
  have hu := hu_of hr
  have tkE : Takes (cxOf (L2.CX P w) P w K mg base N_L_wide_k19 "_law_wide" (defScope s_L_wide_k19) f cdv A outer s H E) (wE E) := takes_of rfl rfl rfl rfl
  exact (pss_cons (ps_set (i := 2) sc_L_wide_k19.nd rfl (Or.inl rfl) (pe_mk c_Room_init (hr.mono (by decide)) rfl T.g_Room (fun σ => passAt tkE σ) (pa_cons pe_int pa_nil)))
    (pss_cons (ps_expr (pe_calM (pv 2) T.cl_Room c_Room_put_move (hr.mono (by decide)) (fun σ => passAt tkE σ) (pa_cons (pe_tup (pa_cons pe_int (pa_cons pe_int (pa_cons pe_int (pa_cons pe_int (pa_cons pe_int (pa_cons pe_int (pa_cons pe_int (pa_cons pe_int (pa_cons pe_int pa_nil)))))))))) pa_nil)))
    (pss_cons (ps_expr (pe_calM (pv 2) T.cl_Room c_Room_put_move (hr.mono (by decide)) (fun σ => passAt tkE σ) (pa_cons (pe_tup (pa_cons pe_int (pa_cons pe_int (pa_cons pe_int (pa_cons pe_int (pa_cons pe_int (pa_cons pe_int (pa_cons pe_int (pa_cons pe_int (pa_cons pe_int pa_nil)))))))))) pa_nil)))
    (pss_cons (ps_expr (pe_calM (pv 2) T.cl_Room c_Room_put_move (hr.mono (by decide)) (fun σ => passAt tkE σ) (pa_cons (pe_tup (pa_cons pe_int (pa_cons pe_int (pa_cons pe_int (pa_cons pe_int (pa_cons pe_int (pa_cons pe_int (pa_cons pe_int (pa_cons pe_int (pa_cons pe_int pa_nil)))))))))) pa_nil)))
    (pss_cons (ps_if (pt_cmpR (op_neD hr.units) (pe_cal c_L_refused_k19 (hr.mono (by decide)) rfl (fun σ => passE0 σ) (pa_cons (pv 2) (pa_cons (pe_op op_add pe_int (pv 1)) pa_nil))) (pe_tup (pa_cons pe_bl (pa_cons pe_bl (pa_cons pe_bl pa_nil)))) (nomark _)) (pss_one (ps_ret pe_bl)) pss_nil)
    (pss_one (ps_ret (pe_cmpR (op_eqD hr.units) (pe_cal c_L_refused_k19 (hr.mono (by decide)) rfl (fun σ => passE0 σ) (pa_cons (pv 2) (pa_cons (pe_op op_add pe_int (pe_op op_modN (pv 0) pe_int)) pa_nil))) (pe_tup (pa_cons pe_bl (pa_cons pe_bl (pa_cons pe_bl pa_nil)))) (nomark _)))))))))
theorem sc_law_k19 : FnScope N_law_k19 ["script"] (defScope s_law_k19) := ⟨rfl, rfl, rfl, by decide +kernel, rfl, by decide +kernel, by decide +kernel⟩
theorem ok_law_k19 {f : Addr} {fd : FuncData} (T : Txt K mg g) (F : Fun K "law" "law" s_law_k19 f fd) (c_Room_init : CalI P w K mg base 5 g.Room ["self", "size"] (sp_Room_init K g)) (c_Room_put_move : CalM P w K mg base 4 g.Room "put_move" ["self", "move"] (sp_Room_put_move K g)) (c_L_all_alike : Cal P w K mg base 7 "_law_all_alike" ["size", "dyes"] (sp_L_all_alike K g)) (c_L_cell_at : Cal P w K mg base 1 "_law_cell_at" ["script", "k"] (sp_L_cell_at K g)) (c_L_counted : Cal P w K mg base 2 "_law_counted" ["reached", "dyes", "size"] (sp_L_counted K g)) (c_L_just : Cal P w K mg base 7 "_law_just" [] (sp_L_just K g)) (c_L_reached : Cal P w K mg base 2 "_law_reached" ["moves", "size"] (sp_L_reached K g)) (c_L_refused_k19 : Cal P w K mg base 5 "_law_refused" ["room", "dyes"] (sp_L_refused_k19 K g)) (c_L_seating : Cal P w K mg base 1 "_law_seating" ["cell", "size"] (sp_L_seating K g)) (c_L_whole : Cal P w K mg base 1 "_law_whole" ["found"] (sp_L_whole K g)) (c_L_wide_k19 : Cal P w K mg base 7 "_law_wide" ["cell", "far"] (sp_L_wide_k19 K g)) (c_dyed : Cal P w K mg base 4 "dyed" ["room", "dyes"] (sp_dyed K g)) : FnOk P w K mg base (L2.CX P w) 8 f fd ["script"] (sp_law K) := by
  refine F.okX sc_law_k19 (fun vs H Q E h => len_law K g vs H Q E h) (fun cdv A outer s H vs Q E hr h => ⟨t_law_k19 K g E, ?_, pure_law_k19  vs H Q E h⟩)
  have hu := hu_of hr
  have tkE : Takes (cxOf (L2.CX P w) P w K mg base N_law_k19 "law" (defScope s_law_k19) f cdv A outer s H E) (wE E) := takes_of rfl rfl rfl rfl
  exact (pss_cons (ps_set (i := 1) sc_law_k19.nd rfl (Or.inl rfl) (pe_op op_add pe_int (pe_op op_modN (pe_cal c_L_cell_at (hr.mono (by decide)) rfl (fun σ => passE0 σ) (pa_cons (pv 0) (pa_cons pe_int pa_nil))) pe_int)))
    (pss_cons (ps_set (i := 2) sc_law_k19.nd rfl (Or.inl rfl) (pe_op op_add pe_int (pe_op op_modN (pe_op op_fdivW (pe_cal c_L_cell_at (hr.mono (by decide)) rfl (fun σ => passE0 σ) (pa_cons (pv 0) (pa_cons pe_int pa_nil))) pe_int) pe_int)))
    (pss_cons (ps_if (pt_cmpR op_lt (pv 1) pe_int (nomark _)) (pss_one (ps_set (i := 2) sc_law_k19.nd rfl (Or.inl rfl) (pe_op op_add pe_int (pe_op op_modN (pe_op op_fdivW (pe_cal c_L_cell_at (hr.mono (by decide)) rfl (fun σ => passE0 σ) (pa_cons (pv 0) (pa_cons pe_int pa_nil))) pe_int) pe_int)))) pss_nil)
    (pss_cons (ps_set (i := 3) sc_law_k19.nd rfl (Or.inl rfl) (pe_op op_modN (pe_cal c_L_cell_at (hr.mono (by decide)) rfl (fun σ => passE0 σ) (pa_cons (pv 0) (pa_cons pe_int pa_nil))) (pe_op op_pow pe_int pe_int)))
    (pss_cons (ps_set (i := 4) sc_law_k19.nd rfl (Or.inl rfl) (pe_op op_modN (pe_op op_fdivW (pe_cal c_L_cell_at (hr.mono (by decide)) rfl (fun σ => passE0 σ) (pa_cons (pv 0) (pa_cons pe_int pa_nil))) pe_int) pe_int))
    (pss_cons (ps_if (pt_cmpR op_eq (pv 4) pe_int (nomark _)) (pss_one (ps_ret (pe_cal c_L_wide_k19 (hr.mono (by decide)) rfl (fun σ => passAt tkE σ) (pa_cons (pe_cal c_L_cell_at (hr.mono (by decide)) rfl (fun σ => passE0 σ) (pa_cons (pv 0) (pa_cons pe_int pa_nil))) (pa_cons (pv 3) pa_nil))))) pss_nil)
    (pss_cons (ps_if (PW.pt (pw_and (pt_cmpR op_eq (pv 4) pe_int (nomark _)) (pw_and1 (pt_cmpR op_eq (pe_op op_modN (pe_cal c_L_cell_at (hr.mono (by decide)) rfl (fun σ => passE0 σ) (pa_cons (pv 0) (pa_cons pe_int pa_nil))) pe_int) pe_int (nomark _))))) (pss_one (ps_ret (pe_cal0 c_L_just (hr.mono (by decide)) rfl (fun σ => passAt tkE σ)))) pss_nil)
    (pss_cons (ps_if (PW.pt (pw_or (pt_cmpR op_eq (pv 4) pe_int (nomark _)) (pw_or1 (pt_cmpR op_eq (pv 4) pe_int (nomark _))))) (pss_one (ps_ret (pe_cal c_L_all_alike (hr.mono (by decide)) rfl (fun σ => passAt tkE σ) (pa_cons pe_int (pa_cons (pe_op op_add pe_int (pe_op op_modN (pe_cal c_L_cell_at (hr.mono (by decide)) rfl (fun σ => passE0 σ) (pa_cons (pv 0) (pa_cons pe_int pa_nil))) pe_int)) pa_nil))))) pss_nil)
    (pss_cons (ps_set (i := 5) sc_law_k19.nd rfl (Or.inl rfl) (pe_mk c_Room_init (hr.mono (by decide)) rfl T.g_Room (fun σ => passAt tkE σ) (pa_cons (pv 1) pa_nil)))
    (pss_cons (ps_set (i := 6) sc_law_k19.nd rfl (Or.inl rfl) (pe_lst pa_nil))
    (pss_cons (ps_if (pt_cmpR op_ne (pe_cal c_dyed (hr.mono (by decide)) rfl (fun σ => passAt tkE σ) (pa_cons (pv 5) (pa_cons (pv 2) pa_nil))) (pe_cal c_L_counted (hr.mono (by decide)) rfl (fun σ => passE0 σ) (pa_cons (pe_lst (pa_cons (pe_tupRg rfl (by rfl) T.z_tuple (prg_1 (by rfl) T.z_range (pv 1))) pa_nil)) (pa_cons (pv 2) (pa_cons (pv 1) pa_nil)))) (nomark _)) (pss_one (ps_ret pe_bl)) pss_nil)
    (pss_cons (ps_for (passes_of rfl) rfl (pi_range1 (by rfl) T.z_range (pa_cons (pe_op op_modN (pe_cal c_L_cell_at (hr.mono (by decide)) rfl (fun σ => passE0 σ) (pa_cons (pv 0) (pa_cons pe_int pa_nil))) pe_int) pa_nil)) (pg_name (i := 7) sc_law_k19.nd rfl (Or.inl rfl)) (pss_cons (ps_expr (pe_bm PySem.F.plainAttrs_list PySem.F.slot_list_append PySem.F.type_list_append mt_append (pv 6) (pa_cons (pe_cal c_L_seating (hr.mono (by decide)) rfl (fun σ => passE0 σ) (pa_cons (pe_cal c_L_cell_at (hr.mono (by decide)) rfl (fun σ => passE0 σ) (pa_cons (pv 0) (pa_cons (pe_op op_add pe_int (pv 7)) pa_nil))) (pa_cons (pv 1) pa_nil))) pa_nil)))
    (pss_one (ps_expr (pe_calM (pv 5) T.cl_Room c_Room_put_move (hr.mono (by decide)) (fun σ => passAt tkE σ) (pa_cons (pe_ix ix_list (pv 6) (pe_un un_neg pe_int) (fun _ _ => rfl)) pa_nil))))))
    (pss_cons (ps_for (passes_of rfl) rfl (pi_list (pe_lst (pa_cons pe_int (pa_cons pe_int (pa_cons (pe_op op_add pe_int (pv 3)) (pa_cons (pe_op op_sub (pe_un un_neg pe_int) (pv 3)) pa_nil)))))) (pg_name (i := 8) sc_law_k19.nd rfl (Or.inl rfl)) (pss_one (ps_if (pt_cmpR (op_neD hr.units) (pe_cal c_L_refused_k19 (hr.mono (by decide)) rfl (fun σ => passE0 σ) (pa_cons (pv 5) (pa_cons (pv 8) pa_nil))) (pe_tup (pa_cons pe_bl (pa_cons pe_bl (pa_cons pe_bl pa_nil)))) (nomark _)) (pss_one (ps_ret pe_bl)) pss_nil)))
    (pss_cons (ps_set (i := 9) sc_law_k19.nd rfl (Or.inl rfl) (pe_cal c_dyed (hr.mono (by decide)) rfl (fun σ => passAt tkE σ) (pa_cons (pv 5) (pa_cons (pv 2) pa_nil))))
    (pss_one (ps_ret (pe_and (pe_cal c_L_whole (hr.mono (by decide)) rfl (fun σ => passE0 σ) (pa_cons (pv 9) pa_nil)) (pe_one (pe_cmpR op_eq (pv 9) (pe_cal c_L_counted (hr.mono (by decide)) rfl (fun σ => passE0 σ) (pa_cons (pe_cal c_L_reached (hr.mono (by decide)) rfl (fun σ => passE0 σ) (pa_cons (pv 6) (pa_cons (pv 1) pa_nil))) (pa_cons (pv 2) (pa_cons (pv 1) pa_nil)))) (nomark _))))))))))))))))))))
end
theorem all_mk {l : PySem.W.OpenLaw} {w : World} {K : PySem.W.Frag} {h : Heap} {mg : Str → Option Value} {fa : Addr} {D_NoNumber : Addr} {D_NoSeating : Addr} {D_NoSize : Addr} {D_OtherSize : Addr} {D_RoomError : Addr} {D_TooMany : Addr} {D_TooWide : Addr} {D_Book : Addr} {D_Room : Addr} (X : K.In h) (G : h.Ns mainGlobals mg) (hfa : mg "law" = some (.ref fa))
    {tk_MANY : Tok}
    {tk_MOST : Tok}
    {tk_WIDE : Tok}
    {f_ask_size : Addr} {od_ask_size an_ask_size : Option Addr} {sl_ask_size : Array (Option Value)} {oc_ask_size kV_ask_size dc_ask_size pm_ask_size cd_ask_size ct_ask_size : Value}
    {f_rest : Addr} {od_rest an_rest : Option Addr} {sl_rest : Array (Option Value)} {oc_rest kV_rest dc_rest pm_rest cd_rest ct_rest : Value}
    {f_Book_init : Addr} {od_Book_init an_Book_init : Option Addr} {sl_Book_init : Array (Option Value)} {oc_Book_init kV_Book_init dc_Book_init pm_Book_init cd_Book_init ct_Book_init : Value}
    {f_Room_init : Addr} {od_Room_init an_Room_init : Option Addr} {sl_Room_init : Array (Option Value)} {oc_Room_init kV_Room_init dc_Room_init pm_Room_init cd_Room_init ct_Room_init : Value}
    {f_Book_note : Addr} {od_Book_note an_Book_note : Option Addr} {sl_Book_note : Array (Option Value)} {oc_Book_note kV_Book_note dc_Book_note pm_Book_note cd_Book_note ct_Book_note : Value}
    {f_joined : Addr} {od_joined an_joined : Option Addr} {sl_joined : Array (Option Value)} {oc_joined kV_joined dc_joined pm_joined cd_joined ct_joined : Value}
    {f_turned : Addr} {od_turned an_turned : Option Addr} {sl_turned : Array (Option Value)} {oc_turned kV_turned dc_turned pm_turned cd_turned ct_turned : Value}
    {f_Book_keep : Addr} {od_Book_keep an_Book_keep : Option Addr} {sl_Book_keep : Array (Option Value)} {oc_Book_keep kV_Book_keep dc_Book_keep pm_Book_keep cd_Book_keep ct_Book_keep : Value}
    {f_Book_sifted : Addr} {od_Book_sifted an_Book_sifted : Option Addr} {sl_Book_sifted : Array (Option Value)} {oc_Book_sifted kV_Book_sifted dc_Book_sifted pm_Book_sifted cd_Book_sifted ct_Book_sifted : Value}
    {f_Book_close : Addr} {od_Book_close an_Book_close : Option Addr} {sl_Book_close : Array (Option Value)} {oc_Book_close kV_Book_close dc_Book_close pm_Book_close cd_Book_close ct_Book_close : Value}
    {f_is_seating : Addr} {od_is_seating an_is_seating : Option Addr} {sl_is_seating : Array (Option Value)} {oc_is_seating kV_is_seating dc_is_seating pm_is_seating cd_is_seating ct_is_seating : Value}
    {f_ask_seating : Addr} {od_ask_seating an_ask_seating : Option Addr} {sl_ask_seating : Array (Option Value)} {oc_ask_seating kV_ask_seating dc_ask_seating pm_ask_seating cd_ask_seating ct_ask_seating : Value}
    {f_Room_ask : Addr} {od_Room_ask an_Room_ask : Option Addr} {sl_Room_ask : Array (Option Value)} {oc_Room_ask kV_Room_ask dc_Room_ask pm_Room_ask cd_Room_ask ct_Room_ask : Value}
    {f_Room_put_move : Addr} {od_Room_put_move an_Room_put_move : Option Addr} {sl_Room_put_move : Array (Option Value)} {oc_Room_put_move kV_Room_put_move dc_Room_put_move pm_Room_put_move cd_Room_put_move ct_Room_put_move : Value}
    {f_L_whole : Addr} {od_L_whole an_L_whole : Option Addr} {sl_L_whole : Array (Option Value)} {oc_L_whole kV_L_whole dc_L_whole pm_L_whole cd_L_whole ct_L_whole : Value}
    {f_Room_how_many : Addr} {od_Room_how_many an_Room_how_many : Option Addr} {sl_Room_how_many : Array (Option Value)} {oc_Room_how_many kV_Room_how_many dc_Room_how_many pm_Room_how_many cd_Room_how_many ct_Room_how_many : Value}
    {f_Room_numbered : Addr} {od_Room_numbered an_Room_numbered : Option Addr} {sl_Room_numbered : Array (Option Value)} {oc_Room_numbered kV_Room_numbered dc_Room_numbered pm_Room_numbered cd_Room_numbered ct_Room_numbered : Value}
    {f_many_times : Addr} {od_many_times an_many_times : Option Addr} {sl_many_times : Array (Option Value)} {oc_many_times kV_many_times dc_many_times pm_many_times cd_many_times ct_many_times : Value}
    {f_rings : Addr} {od_rings an_rings : Option Addr} {sl_rings : Array (Option Value)} {oc_rings kV_rings dc_rings pm_rings cd_rings ct_rings : Value}
    {f_dyed : Addr} {od_dyed an_dyed : Option Addr} {sl_dyed : Array (Option Value)} {oc_dyed kV_dyed dc_dyed pm_dyed cd_dyed ct_dyed : Value}
    {f_L_all_alike : Addr} {od_L_all_alike an_L_all_alike : Option Addr} {sl_L_all_alike : Array (Option Value)} {oc_L_all_alike kV_L_all_alike dc_L_all_alike pm_L_all_alike cd_L_all_alike ct_L_all_alike : Value}
    {f_L_cell_at : Addr} {od_L_cell_at an_L_cell_at : Option Addr} {sl_L_cell_at : Array (Option Value)} {oc_L_cell_at kV_L_cell_at dc_L_cell_at pm_L_cell_at cd_L_cell_at ct_L_cell_at : Value}
    {f_L_dyeing : Addr} {od_L_dyeing an_L_dyeing : Option Addr} {sl_L_dyeing : Array (Option Value)} {oc_L_dyeing kV_L_dyeing dc_L_dyeing pm_L_dyeing cd_L_dyeing ct_L_dyeing : Value}
    {f_L_moved : Addr} {od_L_moved an_L_moved : Option Addr} {sl_L_moved : Array (Option Value)} {oc_L_moved kV_L_moved dc_L_moved pm_L_moved cd_L_moved ct_L_moved : Value}
    {f_L_counted : Addr} {od_L_counted an_L_counted : Option Addr} {sl_L_counted : Array (Option Value)} {oc_L_counted kV_L_counted dc_L_counted pm_L_counted cd_L_counted ct_L_counted : Value}
    {f_L_just : Addr} {od_L_just an_L_just : Option Addr} {sl_L_just : Array (Option Value)} {oc_L_just kV_L_just dc_L_just pm_L_just cd_L_just ct_L_just : Value}
    {f_L_joined : Addr} {od_L_joined an_L_joined : Option Addr} {sl_L_joined : Array (Option Value)} {oc_L_joined kV_L_joined dc_L_joined pm_L_joined cd_L_joined ct_L_joined : Value}
    {f_L_reached : Addr} {od_L_reached an_L_reached : Option Addr} {sl_L_reached : Array (Option Value)} {oc_L_reached kV_L_reached dc_L_reached pm_L_reached cd_L_reached ct_L_reached : Value}
    {f_L_refused_k19 : Addr} {od_L_refused_k19 an_L_refused_k19 : Option Addr} {sl_L_refused_k19 : Array (Option Value)} {oc_L_refused_k19 kV_L_refused_k19 dc_L_refused_k19 pm_L_refused_k19 cd_L_refused_k19 ct_L_refused_k19 : Value}
    {f_L_seating : Addr} {od_L_seating an_L_seating : Option Addr} {sl_L_seating : Array (Option Value)} {oc_L_seating kV_L_seating dc_L_seating pm_L_seating cd_L_seating ct_L_seating : Value}
    {f_L_wide_k19 : Addr} {od_L_wide_k19 an_L_wide_k19 : Option Addr} {sl_L_wide_k19 : Array (Option Value)} {oc_L_wide_k19 kV_L_wide_k19 dc_L_wide_k19 pm_L_wide_k19 cd_L_wide_k19 ct_L_wide_k19 : Value}
    {f_law_k19 : Addr} {od_law_k19 an_law_k19 : Option Addr} {sl_law_k19 : Array (Option Value)} {oc_law_k19 kV_law_k19 dc_law_k19 pm_law_k19 cd_law_k19 ct_law_k19 : Value}
    (z_ValueError : PySem.W.nsIn K mainGlobals "ValueError" = some none)
    (z_bool : PySem.W.nsIn K mainGlobals "bool" = some none)
    (z_int : PySem.W.nsIn K mainGlobals "int" = some none)
    (z_isinstance : PySem.W.nsIn K mainGlobals "isinstance" = some none)
    (z_len : PySem.W.nsIn K mainGlobals "len" = some none)
    (z_list : PySem.W.nsIn K mainGlobals "list" = some none)
    (z_min : PySem.W.nsIn K mainGlobals "min" = some none)
    (z_range : PySem.W.nsIn K mainGlobals "range" = some none)
    (z_sorted : PySem.W.nsIn K mainGlobals "sorted" = some none)
    (z_tuple : PySem.W.nsIn K mainGlobals "tuple" = some none)
    (c_MANY : PySem.W.nsIn K mainGlobals "MANY" = some (some (.int 200 tk_MANY)))
    (c_MOST : PySem.W.nsIn K mainGlobals "MOST" = some (some (.int 16 tk_MOST)))
    (c_WIDE : PySem.W.nsIn K mainGlobals "WIDE" = some (some (.int 2000 tk_WIDE)))
    (ga_NoNumber : PySem.W.nsIn K mainGlobals "NoNumber" = some (some (.ref D_NoNumber)))
    (xe_NoNumber : PySem.W.excIn K D_NoNumber [.type "ValueError", .type "Exception", .type "BaseException", .type "object"] "ValueError.__new__" = true)
    (xk_NoNumber : PySem.W.keepIn K (.ref D_NoNumber) = true)
    (xb_NoNumber : PySem.W.subIn K (.ref D_NoNumber) (.type "BaseException") = some true)
    (xt_NoNumber : PySem.W.typeIn K (.ref D_NoNumber) = some (.type "type"))
    (ga_NoSeating : PySem.W.nsIn K mainGlobals "NoSeating" = some (some (.ref D_NoSeating)))
    (xe_NoSeating : PySem.W.excIn K D_NoSeating [.type "ValueError", .type "Exception", .type "BaseException", .type "object"] "ValueError.__new__" = true)
    (xk_NoSeating : PySem.W.keepIn K (.ref D_NoSeating) = true)
    (xb_NoSeating : PySem.W.subIn K (.ref D_NoSeating) (.type "BaseException") = some true)
    (xt_NoSeating : PySem.W.typeIn K (.ref D_NoSeating) = some (.type "type"))
    (ga_NoSize : PySem.W.nsIn K mainGlobals "NoSize" = some (some (.ref D_NoSize)))
    (xe_NoSize : PySem.W.excIn K D_NoSize [.type "ValueError", .type "Exception", .type "BaseException", .type "object"] "ValueError.__new__" = true)
    (xk_NoSize : PySem.W.keepIn K (.ref D_NoSize) = true)
    (xb_NoSize : PySem.W.subIn K (.ref D_NoSize) (.type "BaseException") = some true)
    (xt_NoSize : PySem.W.typeIn K (.ref D_NoSize) = some (.type "type"))
    (ga_OtherSize : PySem.W.nsIn K mainGlobals "OtherSize" = some (some (.ref D_OtherSize)))
    (xe_OtherSize : PySem.W.excIn K D_OtherSize [.type "ValueError", .type "Exception", .type "BaseException", .type "object"] "ValueError.__new__" = true)
    (xk_OtherSize : PySem.W.keepIn K (.ref D_OtherSize) = true)
    (xb_OtherSize : PySem.W.subIn K (.ref D_OtherSize) (.type "BaseException") = some true)
    (xt_OtherSize : PySem.W.typeIn K (.ref D_OtherSize) = some (.type "type"))
    (ga_RoomError : PySem.W.nsIn K mainGlobals "RoomError" = some (some (.ref D_RoomError)))
    (xe_RoomError : PySem.W.excIn K D_RoomError [.type "ValueError", .type "Exception", .type "BaseException", .type "object"] "ValueError.__new__" = true)
    (xk_RoomError : PySem.W.keepIn K (.ref D_RoomError) = true)
    (xb_RoomError : PySem.W.subIn K (.ref D_RoomError) (.type "BaseException") = some true)
    (xt_RoomError : PySem.W.typeIn K (.ref D_RoomError) = some (.type "type"))
    (ga_TooMany : PySem.W.nsIn K mainGlobals "TooMany" = some (some (.ref D_TooMany)))
    (xe_TooMany : PySem.W.excIn K D_TooMany [.type "ValueError", .type "Exception", .type "BaseException", .type "object"] "ValueError.__new__" = true)
    (xk_TooMany : PySem.W.keepIn K (.ref D_TooMany) = true)
    (xb_TooMany : PySem.W.subIn K (.ref D_TooMany) (.type "BaseException") = some true)
    (xt_TooMany : PySem.W.typeIn K (.ref D_TooMany) = some (.type "type"))
    (ga_TooWide : PySem.W.nsIn K mainGlobals "TooWide" = some (some (.ref D_TooWide)))
    (xe_TooWide : PySem.W.excIn K D_TooWide [.type "ValueError", .type "Exception", .type "BaseException", .type "object"] "ValueError.__new__" = true)
    (xk_TooWide : PySem.W.keepIn K (.ref D_TooWide) = true)
    (xb_TooWide : PySem.W.subIn K (.ref D_TooWide) (.type "BaseException") = some true)
    (xt_TooWide : PySem.W.typeIn K (.ref D_TooWide) = some (.type "type"))
    (ga_Book : PySem.W.nsIn K mainGlobals "Book" = some (some (.ref D_Book)))
    (pg_Book : PySem.W.plainGet K D_Book Str.empty = true)
    (hd_Book : PySem.W.hasDictIn K D_Book = true)
    (po_Book : PySem.W.plainOver K D_Book = true)
    (sa_Book : PySem.W.findIn K (.ref D_Book) "__setattr__" = some (some (.builtin "object.__setattr__")))
    (na_Book_size : PySem.W.findIn K (.ref D_Book) "size" = some none)
    (na_Book_steps : PySem.W.findIn K (.ref D_Book) "steps" = some none)
    (na_Book_made : PySem.W.findIn K (.ref D_Book) "made" = some none)
    (na_Book_rows : PySem.W.findIn K (.ref D_Book) "rows" = some none)
    (na_Book_kept : PySem.W.findIn K (.ref D_Book) "kept" = some none)
    (mk_Book : PySem.W.makesIn K D_Book = true)
    (kc_Book : PySem.W.keepIn K (.ref D_Book) = true)
    (ga_Room : PySem.W.nsIn K mainGlobals "Room" = some (some (.ref D_Room)))
    (pg_Room : PySem.W.plainGet K D_Room Str.empty = true)
    (hd_Room : PySem.W.hasDictIn K D_Room = true)
    (po_Room : PySem.W.plainOver K D_Room = true)
    (sa_Room : PySem.W.findIn K (.ref D_Room) "__setattr__" = some (some (.builtin "object.__setattr__")))
    (na_Room_size : PySem.W.findIn K (.ref D_Room) "size" = some none)
    (na_Room_told : PySem.W.findIn K (.ref D_Room) "told" = some none)
    (na_Room_book : PySem.W.findIn K (.ref D_Room) "book" = some none)
    (mk_Room : PySem.W.makesIn K D_Room = true)
    (kc_Room : PySem.W.keepIn K (.ref D_Room) = true)
    (hdx_RoomError : PySem.W.hasDictIn K D_RoomError = true)
    (sb_NoNumber_RoomError : PySem.W.subIn K (.ref D_NoNumber) (.ref D_RoomError) = some true)
    (sb_TooWide_RoomError : PySem.W.subIn K (.ref D_TooWide) (.ref D_RoomError) = some true)
    (eg_NoNumber : PySem.W.findIn K (.ref D_NoNumber) "__getattribute__" = some (some (.builtin "BaseException.__getattribute__")))
    (ek_NoNumber : PySem.W.findIn K (.ref D_NoNumber) "__getattr__" = some none)
    (hdx_NoNumber : PySem.W.hasDictIn K D_NoNumber = true)
    (ea_NoNumber : PySem.W.findIn K (.ref D_NoNumber) "__class__" = some (some (.builtin "object.__class__")))
    (e_hn : PySem.W.specialIn K (.builtin "object.__class__") "__get__" = some (some (.builtin "getset_descriptor.__get__")))
    (e_ht : PySem.W.takesIn K (.builtin "object.__class__") = some true)
    (em_NoNumber : PySem.W.mroIn K D_NoNumber (.type "object") = some true)
    (eg_TooWide : PySem.W.findIn K (.ref D_TooWide) "__getattribute__" = some (some (.builtin "BaseException.__getattribute__")))
    (ek_TooWide : PySem.W.findIn K (.ref D_TooWide) "__getattr__" = some none)
    (hdx_TooWide : PySem.W.hasDictIn K D_TooWide = true)
    (ea_TooWide : PySem.W.findIn K (.ref D_TooWide) "__class__" = some (some (.builtin "object.__class__")))
    (em_TooWide : PySem.W.mroIn K D_TooWide (.type "object") = some true)
    (kf_NoNumber_NoNumber : PySem.W.kitOne K (.ref D_NoNumber) (.ref D_NoNumber) = some true)
    (kf_NoNumber_TooWide : PySem.W.kitOne K (.ref D_NoNumber) (.ref D_TooWide) = some false)
    (kf_TooWide_NoNumber : PySem.W.kitOne K (.ref D_TooWide) (.ref D_NoNumber) = some false)
    (kf_TooWide_TooWide : PySem.W.kitOne K (.ref D_TooWide) (.ref D_TooWide) = some true)
    (kf_NoNumber_ValueError : PySem.W.kitOne K (.ref D_NoNumber) (.type "ValueError") = some true)
    (kf_TooWide_ValueError : PySem.W.kitOne K (.ref D_TooWide) (.type "ValueError") = some true)
    (a_ask_size : PySem.W.nsIn K mainGlobals "ask_size" = some (some (.ref f_ask_size)))
    (l_ask_size : K.lookup f_ask_size = some ⟨oc_ask_size, od_ask_size, .func (PySem.W.fnOf "ask_size" "ask_size" (defArgs s_ask_size) (defBody s_ask_size) (defScope s_ask_size) .none kV_ask_size dc_ask_size pm_ask_size an_ask_size cd_ask_size ct_ask_size), sl_ask_size⟩)
    (co_ask_size : PySem.W.codeIn K cd_ask_size "ask_size" = true)
    (ke_ask_size : PySem.W.keepIn K (.ref f_ask_size) = true)
    (a_rest : PySem.W.nsIn K mainGlobals "rest" = some (some (.ref f_rest)))
    (l_rest : K.lookup f_rest = some ⟨oc_rest, od_rest, .func (PySem.W.fnOf "rest" "rest" (defArgs s_rest) (defBody s_rest) (defScope s_rest) .none kV_rest dc_rest pm_rest an_rest cd_rest ct_rest), sl_rest⟩)
    (co_rest : PySem.W.codeIn K cd_rest "rest" = true)
    (ke_rest : PySem.W.keepIn K (.ref f_rest) = true)
    (a_Book_init : PySem.W.findIn K (.ref D_Book) "__init__" = some (some (.ref f_Book_init)))
    (i_Book_init : PySem.W.isFn K (.ref f_Book_init) = true)
    (l_Book_init : K.lookup f_Book_init = some ⟨oc_Book_init, od_Book_init, .func (PySem.W.fnOf "__init__" "Book.__init__" (defArgs s_Book_init) (defBody s_Book_init) (defScope s_Book_init) .none kV_Book_init dc_Book_init pm_Book_init an_Book_init cd_Book_init ct_Book_init), sl_Book_init⟩)
    (co_Book_init : PySem.W.codeIn K cd_Book_init "Book.__init__" = true)
    (ke_Book_init : PySem.W.keepIn K (.ref f_Book_init) = true)
    (a_Room_init : PySem.W.findIn K (.ref D_Room) "__init__" = some (some (.ref f_Room_init)))
    (i_Room_init : PySem.W.isFn K (.ref f_Room_init) = true)
    (l_Room_init : K.lookup f_Room_init = some ⟨oc_Room_init, od_Room_init, .func (PySem.W.fnOf "__init__" "Room.__init__" (defArgs s_Room_init) (defBody s_Room_init) (defScope s_Room_init) .none kV_Room_init dc_Room_init pm_Room_init an_Room_init cd_Room_init ct_Room_init), sl_Room_init⟩)
    (co_Room_init : PySem.W.codeIn K cd_Room_init "Room.__init__" = true)
    (ke_Room_init : PySem.W.keepIn K (.ref f_Room_init) = true)
    (a_Book_note : PySem.W.findIn K (.ref D_Book) "note" = some (some (.ref f_Book_note)))
    (i_Book_note : PySem.W.isFn K (.ref f_Book_note) = true)
    (l_Book_note : K.lookup f_Book_note = some ⟨oc_Book_note, od_Book_note, .func (PySem.W.fnOf "note" "Book.note" (defArgs s_Book_note) (defBody s_Book_note) (defScope s_Book_note) .none kV_Book_note dc_Book_note pm_Book_note an_Book_note cd_Book_note ct_Book_note), sl_Book_note⟩)
    (co_Book_note : PySem.W.codeIn K cd_Book_note "Book.note" = true)
    (ke_Book_note : PySem.W.keepIn K (.ref f_Book_note) = true)
    (a_joined : PySem.W.nsIn K mainGlobals "joined" = some (some (.ref f_joined)))
    (l_joined : K.lookup f_joined = some ⟨oc_joined, od_joined, .func (PySem.W.fnOf "joined" "joined" (defArgs s_joined) (defBody s_joined) (defScope s_joined) .none kV_joined dc_joined pm_joined an_joined cd_joined ct_joined), sl_joined⟩)
    (co_joined : PySem.W.codeIn K cd_joined "joined" = true)
    (ke_joined : PySem.W.keepIn K (.ref f_joined) = true)
    (a_turned : PySem.W.nsIn K mainGlobals "turned" = some (some (.ref f_turned)))
    (l_turned : K.lookup f_turned = some ⟨oc_turned, od_turned, .func (PySem.W.fnOf "turned" "turned" (defArgs s_turned) (defBody s_turned) (defScope s_turned) .none kV_turned dc_turned pm_turned an_turned cd_turned ct_turned), sl_turned⟩)
    (co_turned : PySem.W.codeIn K cd_turned "turned" = true)
    (ke_turned : PySem.W.keepIn K (.ref f_turned) = true)
    (a_Book_keep : PySem.W.findIn K (.ref D_Book) "keep" = some (some (.ref f_Book_keep)))
    (i_Book_keep : PySem.W.isFn K (.ref f_Book_keep) = true)
    (l_Book_keep : K.lookup f_Book_keep = some ⟨oc_Book_keep, od_Book_keep, .func (PySem.W.fnOf "keep" "Book.keep" (defArgs s_Book_keep) (defBody s_Book_keep) (defScope s_Book_keep) .none kV_Book_keep dc_Book_keep pm_Book_keep an_Book_keep cd_Book_keep ct_Book_keep), sl_Book_keep⟩)
    (co_Book_keep : PySem.W.codeIn K cd_Book_keep "Book.keep" = true)
    (ke_Book_keep : PySem.W.keepIn K (.ref f_Book_keep) = true)
    (a_Book_sifted : PySem.W.findIn K (.ref D_Book) "sifted" = some (some (.ref f_Book_sifted)))
    (i_Book_sifted : PySem.W.isFn K (.ref f_Book_sifted) = true)
    (l_Book_sifted : K.lookup f_Book_sifted = some ⟨oc_Book_sifted, od_Book_sifted, .func (PySem.W.fnOf "sifted" "Book.sifted" (defArgs s_Book_sifted) (defBody s_Book_sifted) (defScope s_Book_sifted) .none kV_Book_sifted dc_Book_sifted pm_Book_sifted an_Book_sifted cd_Book_sifted ct_Book_sifted), sl_Book_sifted⟩)
    (co_Book_sifted : PySem.W.codeIn K cd_Book_sifted "Book.sifted" = true)
    (ke_Book_sifted : PySem.W.keepIn K (.ref f_Book_sifted) = true)
    (a_Book_close : PySem.W.findIn K (.ref D_Book) "close" = some (some (.ref f_Book_close)))
    (i_Book_close : PySem.W.isFn K (.ref f_Book_close) = true)
    (l_Book_close : K.lookup f_Book_close = some ⟨oc_Book_close, od_Book_close, .func (PySem.W.fnOf "close" "Book.close" (defArgs s_Book_close) (defBody s_Book_close) (defScope s_Book_close) .none kV_Book_close dc_Book_close pm_Book_close an_Book_close cd_Book_close ct_Book_close), sl_Book_close⟩)
    (co_Book_close : PySem.W.codeIn K cd_Book_close "Book.close" = true)
    (ke_Book_close : PySem.W.keepIn K (.ref f_Book_close) = true)
    (a_is_seating : PySem.W.nsIn K mainGlobals "is_seating" = some (some (.ref f_is_seating)))
    (l_is_seating : K.lookup f_is_seating = some ⟨oc_is_seating, od_is_seating, .func (PySem.W.fnOf "is_seating" "is_seating" (defArgs s_is_seating) (defBody s_is_seating) (defScope s_is_seating) .none kV_is_seating dc_is_seating pm_is_seating an_is_seating cd_is_seating ct_is_seating), sl_is_seating⟩)
    (co_is_seating : PySem.W.codeIn K cd_is_seating "is_seating" = true)
    (ke_is_seating : PySem.W.keepIn K (.ref f_is_seating) = true)
    (a_ask_seating : PySem.W.nsIn K mainGlobals "ask_seating" = some (some (.ref f_ask_seating)))
    (l_ask_seating : K.lookup f_ask_seating = some ⟨oc_ask_seating, od_ask_seating, .func (PySem.W.fnOf "ask_seating" "ask_seating" (defArgs s_ask_seating) (defBody s_ask_seating) (defScope s_ask_seating) .none kV_ask_seating dc_ask_seating pm_ask_seating an_ask_seating cd_ask_seating ct_ask_seating), sl_ask_seating⟩)
    (co_ask_seating : PySem.W.codeIn K cd_ask_seating "ask_seating" = true)
    (ke_ask_seating : PySem.W.keepIn K (.ref f_ask_seating) = true)
    (a_Room_ask : PySem.W.findIn K (.ref D_Room) "ask" = some (some (.ref f_Room_ask)))
    (i_Room_ask : PySem.W.isFn K (.ref f_Room_ask) = true)
    (l_Room_ask : K.lookup f_Room_ask = some ⟨oc_Room_ask, od_Room_ask, .func (PySem.W.fnOf "ask" "Room.ask" (defArgs s_Room_ask) (defBody s_Room_ask) (defScope s_Room_ask) .none kV_Room_ask dc_Room_ask pm_Room_ask an_Room_ask cd_Room_ask ct_Room_ask), sl_Room_ask⟩)
    (co_Room_ask : PySem.W.codeIn K cd_Room_ask "Room.ask" = true)
    (ke_Room_ask : PySem.W.keepIn K (.ref f_Room_ask) = true)
    (a_Room_put_move : PySem.W.findIn K (.ref D_Room) "put_move" = some (some (.ref f_Room_put_move)))
    (i_Room_put_move : PySem.W.isFn K (.ref f_Room_put_move) = true)
    (l_Room_put_move : K.lookup f_Room_put_move = some ⟨oc_Room_put_move, od_Room_put_move, .func (PySem.W.fnOf "put_move" "Room.put_move" (defArgs s_Room_put_move) (defBody s_Room_put_move) (defScope s_Room_put_move) .none kV_Room_put_move dc_Room_put_move pm_Room_put_move an_Room_put_move cd_Room_put_move ct_Room_put_move), sl_Room_put_move⟩)
    (co_Room_put_move : PySem.W.codeIn K cd_Room_put_move "Room.put_move" = true)
    (ke_Room_put_move : PySem.W.keepIn K (.ref f_Room_put_move) = true)
    (a_L_whole : PySem.W.nsIn K mainGlobals "_law_whole" = some (some (.ref f_L_whole)))
    (l_L_whole : K.lookup f_L_whole = some ⟨oc_L_whole, od_L_whole, .func (PySem.W.fnOf "_law_whole" "_law_whole" (defArgs s_L_whole) (defBody s_L_whole) (defScope s_L_whole) .none kV_L_whole dc_L_whole pm_L_whole an_L_whole cd_L_whole ct_L_whole), sl_L_whole⟩)
    (co_L_whole : PySem.W.codeIn K cd_L_whole "_law_whole" = true)
    (ke_L_whole : PySem.W.keepIn K (.ref f_L_whole) = true)
    (a_Room_how_many : PySem.W.findIn K (.ref D_Room) "how_many" = some (some (.ref f_Room_how_many)))
    (i_Room_how_many : PySem.W.isFn K (.ref f_Room_how_many) = true)
    (l_Room_how_many : K.lookup f_Room_how_many = some ⟨oc_Room_how_many, od_Room_how_many, .func (PySem.W.fnOf "how_many" "Room.how_many" (defArgs s_Room_how_many) (defBody s_Room_how_many) (defScope s_Room_how_many) .none kV_Room_how_many dc_Room_how_many pm_Room_how_many an_Room_how_many cd_Room_how_many ct_Room_how_many), sl_Room_how_many⟩)
    (co_Room_how_many : PySem.W.codeIn K cd_Room_how_many "Room.how_many" = true)
    (ke_Room_how_many : PySem.W.keepIn K (.ref f_Room_how_many) = true)
    (a_Room_numbered : PySem.W.findIn K (.ref D_Room) "numbered" = some (some (.ref f_Room_numbered)))
    (i_Room_numbered : PySem.W.isFn K (.ref f_Room_numbered) = true)
    (l_Room_numbered : K.lookup f_Room_numbered = some ⟨oc_Room_numbered, od_Room_numbered, .func (PySem.W.fnOf "numbered" "Room.numbered" (defArgs s_Room_numbered) (defBody s_Room_numbered) (defScope s_Room_numbered) .none kV_Room_numbered dc_Room_numbered pm_Room_numbered an_Room_numbered cd_Room_numbered ct_Room_numbered), sl_Room_numbered⟩)
    (co_Room_numbered : PySem.W.codeIn K cd_Room_numbered "Room.numbered" = true)
    (ke_Room_numbered : PySem.W.keepIn K (.ref f_Room_numbered) = true)
    (a_many_times : PySem.W.nsIn K mainGlobals "many_times" = some (some (.ref f_many_times)))
    (l_many_times : K.lookup f_many_times = some ⟨oc_many_times, od_many_times, .func (PySem.W.fnOf "many_times" "many_times" (defArgs s_many_times) (defBody s_many_times) (defScope s_many_times) .none kV_many_times dc_many_times pm_many_times an_many_times cd_many_times ct_many_times), sl_many_times⟩)
    (co_many_times : PySem.W.codeIn K cd_many_times "many_times" = true)
    (ke_many_times : PySem.W.keepIn K (.ref f_many_times) = true)
    (a_rings : PySem.W.nsIn K mainGlobals "rings" = some (some (.ref f_rings)))
    (l_rings : K.lookup f_rings = some ⟨oc_rings, od_rings, .func (PySem.W.fnOf "rings" "rings" (defArgs s_rings) (defBody s_rings) (defScope s_rings) .none kV_rings dc_rings pm_rings an_rings cd_rings ct_rings), sl_rings⟩)
    (co_rings : PySem.W.codeIn K cd_rings "rings" = true)
    (ke_rings : PySem.W.keepIn K (.ref f_rings) = true)
    (a_dyed : PySem.W.nsIn K mainGlobals "dyed" = some (some (.ref f_dyed)))
    (l_dyed : K.lookup f_dyed = some ⟨oc_dyed, od_dyed, .func (PySem.W.fnOf "dyed" "dyed" (defArgs s_dyed) (defBody s_dyed) (defScope s_dyed) .none kV_dyed dc_dyed pm_dyed an_dyed cd_dyed ct_dyed), sl_dyed⟩)
    (co_dyed : PySem.W.codeIn K cd_dyed "dyed" = true)
    (ke_dyed : PySem.W.keepIn K (.ref f_dyed) = true)
    (a_L_all_alike : PySem.W.nsIn K mainGlobals "_law_all_alike" = some (some (.ref f_L_all_alike)))
    (l_L_all_alike : K.lookup f_L_all_alike = some ⟨oc_L_all_alike, od_L_all_alike, .func (PySem.W.fnOf "_law_all_alike" "_law_all_alike" (defArgs s_L_all_alike) (defBody s_L_all_alike) (defScope s_L_all_alike) .none kV_L_all_alike dc_L_all_alike pm_L_all_alike an_L_all_alike cd_L_all_alike ct_L_all_alike), sl_L_all_alike⟩)
    (co_L_all_alike : PySem.W.codeIn K cd_L_all_alike "_law_all_alike" = true)
    (ke_L_all_alike : PySem.W.keepIn K (.ref f_L_all_alike) = true)
    (a_L_cell_at : PySem.W.nsIn K mainGlobals "_law_cell_at" = some (some (.ref f_L_cell_at)))
    (l_L_cell_at : K.lookup f_L_cell_at = some ⟨oc_L_cell_at, od_L_cell_at, .func (PySem.W.fnOf "_law_cell_at" "_law_cell_at" (defArgs s_L_cell_at) (defBody s_L_cell_at) (defScope s_L_cell_at) .none kV_L_cell_at dc_L_cell_at pm_L_cell_at an_L_cell_at cd_L_cell_at ct_L_cell_at), sl_L_cell_at⟩)
    (co_L_cell_at : PySem.W.codeIn K cd_L_cell_at "_law_cell_at" = true)
    (ke_L_cell_at : PySem.W.keepIn K (.ref f_L_cell_at) = true)
    (a_L_dyeing : PySem.W.nsIn K mainGlobals "_law_dyeing" = some (some (.ref f_L_dyeing)))
    (l_L_dyeing : K.lookup f_L_dyeing = some ⟨oc_L_dyeing, od_L_dyeing, .func (PySem.W.fnOf "_law_dyeing" "_law_dyeing" (defArgs s_L_dyeing) (defBody s_L_dyeing) (defScope s_L_dyeing) .none kV_L_dyeing dc_L_dyeing pm_L_dyeing an_L_dyeing cd_L_dyeing ct_L_dyeing), sl_L_dyeing⟩)
    (co_L_dyeing : PySem.W.codeIn K cd_L_dyeing "_law_dyeing" = true)
    (ke_L_dyeing : PySem.W.keepIn K (.ref f_L_dyeing) = true)
    (a_L_moved : PySem.W.nsIn K mainGlobals "_law_moved" = some (some (.ref f_L_moved)))
    (l_L_moved : K.lookup f_L_moved = some ⟨oc_L_moved, od_L_moved, .func (PySem.W.fnOf "_law_moved" "_law_moved" (defArgs s_L_moved) (defBody s_L_moved) (defScope s_L_moved) .none kV_L_moved dc_L_moved pm_L_moved an_L_moved cd_L_moved ct_L_moved), sl_L_moved⟩)
    (co_L_moved : PySem.W.codeIn K cd_L_moved "_law_moved" = true)
    (ke_L_moved : PySem.W.keepIn K (.ref f_L_moved) = true)
    (a_L_counted : PySem.W.nsIn K mainGlobals "_law_counted" = some (some (.ref f_L_counted)))
    (l_L_counted : K.lookup f_L_counted = some ⟨oc_L_counted, od_L_counted, .func (PySem.W.fnOf "_law_counted" "_law_counted" (defArgs s_L_counted) (defBody s_L_counted) (defScope s_L_counted) .none kV_L_counted dc_L_counted pm_L_counted an_L_counted cd_L_counted ct_L_counted), sl_L_counted⟩)
    (co_L_counted : PySem.W.codeIn K cd_L_counted "_law_counted" = true)
    (ke_L_counted : PySem.W.keepIn K (.ref f_L_counted) = true)
    (a_L_just : PySem.W.nsIn K mainGlobals "_law_just" = some (some (.ref f_L_just)))
    (l_L_just : K.lookup f_L_just = some ⟨oc_L_just, od_L_just, .func (PySem.W.fnOf "_law_just" "_law_just" (defArgs s_L_just) (defBody s_L_just) (defScope s_L_just) .none kV_L_just dc_L_just pm_L_just an_L_just cd_L_just ct_L_just), sl_L_just⟩)
    (co_L_just : PySem.W.codeIn K cd_L_just "_law_just" = true)
    (ke_L_just : PySem.W.keepIn K (.ref f_L_just) = true)
    (a_L_joined : PySem.W.nsIn K mainGlobals "_law_joined" = some (some (.ref f_L_joined)))
    (l_L_joined : K.lookup f_L_joined = some ⟨oc_L_joined, od_L_joined, .func (PySem.W.fnOf "_law_joined" "_law_joined" (defArgs s_L_joined) (defBody s_L_joined) (defScope s_L_joined) .none kV_L_joined dc_L_joined pm_L_joined an_L_joined cd_L_joined ct_L_joined), sl_L_joined⟩)
    (co_L_joined : PySem.W.codeIn K cd_L_joined "_law_joined" = true)
    (ke_L_joined : PySem.W.keepIn K (.ref f_L_joined) = true)
    (a_L_reached : PySem.W.nsIn K mainGlobals "_law_reached" = some (some (.ref f_L_reached)))
    (l_L_reached : K.lookup f_L_reached = some ⟨oc_L_reached, od_L_reached, .func (PySem.W.fnOf "_law_reached" "_law_reached" (defArgs s_L_reached) (defBody s_L_reached) (defScope s_L_reached) .none kV_L_reached dc_L_reached pm_L_reached an_L_reached cd_L_reached ct_L_reached), sl_L_reached⟩)
    (co_L_reached : PySem.W.codeIn K cd_L_reached "_law_reached" = true)
    (ke_L_reached : PySem.W.keepIn K (.ref f_L_reached) = true)
    (a_L_refused_k19 : PySem.W.nsIn K mainGlobals "_law_refused" = some (some (.ref f_L_refused_k19)))
    (l_L_refused_k19 : K.lookup f_L_refused_k19 = some ⟨oc_L_refused_k19, od_L_refused_k19, .func (PySem.W.fnOf "_law_refused" "_law_refused" (defArgs s_L_refused_k19) (defBody s_L_refused_k19) (defScope s_L_refused_k19) .none kV_L_refused_k19 dc_L_refused_k19 pm_L_refused_k19 an_L_refused_k19 cd_L_refused_k19 ct_L_refused_k19), sl_L_refused_k19⟩)
    (co_L_refused_k19 : PySem.W.codeIn K cd_L_refused_k19 "_law_refused" = true)
    (ke_L_refused_k19 : PySem.W.keepIn K (.ref f_L_refused_k19) = true)
    (a_L_seating : PySem.W.nsIn K mainGlobals "_law_seating" = some (some (.ref f_L_seating)))
    (l_L_seating : K.lookup f_L_seating = some ⟨oc_L_seating, od_L_seating, .func (PySem.W.fnOf "_law_seating" "_law_seating" (defArgs s_L_seating) (defBody s_L_seating) (defScope s_L_seating) .none kV_L_seating dc_L_seating pm_L_seating an_L_seating cd_L_seating ct_L_seating), sl_L_seating⟩)
    (co_L_seating : PySem.W.codeIn K cd_L_seating "_law_seating" = true)
    (ke_L_seating : PySem.W.keepIn K (.ref f_L_seating) = true)
    (a_L_wide_k19 : PySem.W.nsIn K mainGlobals "_law_wide" = some (some (.ref f_L_wide_k19)))
    (l_L_wide_k19 : K.lookup f_L_wide_k19 = some ⟨oc_L_wide_k19, od_L_wide_k19, .func (PySem.W.fnOf "_law_wide" "_law_wide" (defArgs s_L_wide_k19) (defBody s_L_wide_k19) (defScope s_L_wide_k19) .none kV_L_wide_k19 dc_L_wide_k19 pm_L_wide_k19 an_L_wide_k19 cd_L_wide_k19 ct_L_wide_k19), sl_L_wide_k19⟩)
    (co_L_wide_k19 : PySem.W.codeIn K cd_L_wide_k19 "_law_wide" = true)
    (ke_L_wide_k19 : PySem.W.keepIn K (.ref f_L_wide_k19) = true)
    (a_law_k19 : PySem.W.nsIn K mainGlobals "law" = some (some (.ref f_law_k19)))
    (l_law_k19 : K.lookup f_law_k19 = some ⟨oc_law_k19, od_law_k19, .func (PySem.W.fnOf "law" "law" (defArgs s_law_k19) (defBody s_law_k19) (defScope s_law_k19) .none kV_law_k19 dc_law_k19 pm_law_k19 an_law_k19 cd_law_k19 ct_law_k19), sl_law_k19⟩)
    (co_law_k19 : PySem.W.codeIn K cd_law_k19 "law" = true)
    (ke_law_k19 : PySem.W.keepIn K (.ref f_law_k19) = true) :
    ∃ fd : FuncData, (∀ (s : Shared) (v : Value), BindsTo s fd ⟨[v], []⟩ [("script", v)]) ∧ ∀ base : Heap, K.In base → base.Ns mainGlobals mg → FnOk l.prog w K mg base (L2.CX l.prog w) 8 fa fd ["script"] (sp_law K) := by
  have e := hfa.symm.trans (PySem.W.mg_of X G a_law_k19)
  cases e
  have T : Txt K mg { w := w, NoNumber := D_NoNumber, NoSeating := D_NoSeating, NoSize := D_NoSize, OtherSize := D_OtherSize, RoomError := D_RoomError, TooMany := D_TooMany, TooWide := D_TooWide, Book := D_Book, Room := D_Room } := {
    z_ValueError := PySem.W.mg_none_of X G z_ValueError
    z_bool := PySem.W.mg_none_of X G z_bool
    z_int := PySem.W.mg_none_of X G z_int
    z_isinstance := PySem.W.mg_none_of X G z_isinstance
    z_len := PySem.W.mg_none_of X G z_len
    z_list := PySem.W.mg_none_of X G z_list
    z_min := PySem.W.mg_none_of X G z_min
    z_range := PySem.W.mg_none_of X G z_range
    z_sorted := PySem.W.mg_none_of X G z_sorted
    z_tuple := PySem.W.mg_none_of X G z_tuple
    c_MANY := ⟨_, PySem.W.mg_of X G c_MANY⟩
    c_MOST := ⟨_, PySem.W.mg_of X G c_MOST⟩
    c_WIDE := ⟨_, PySem.W.mg_of X G c_WIDE⟩
    g_NoNumber := PySem.W.mg_of X G ga_NoNumber
    g_NoSeating := PySem.W.mg_of X G ga_NoSeating
    g_NoSize := PySem.W.mg_of X G ga_NoSize
    g_OtherSize := PySem.W.mg_of X G ga_OtherSize
    g_RoomError := PySem.W.mg_of X G ga_RoomError
    g_TooMany := PySem.W.mg_of X G ga_TooMany
    g_TooWide := PySem.W.mg_of X G ga_TooWide
    x_NoNumber := ⟨PySem.W.mg_of X G ga_NoNumber, xe_NoNumber, xk_NoNumber, xb_NoNumber, xt_NoNumber⟩
    x_NoSeating := ⟨PySem.W.mg_of X G ga_NoSeating, xe_NoSeating, xk_NoSeating, xb_NoSeating, xt_NoSeating⟩
    x_NoSize := ⟨PySem.W.mg_of X G ga_NoSize, xe_NoSize, xk_NoSize, xb_NoSize, xt_NoSize⟩
    x_OtherSize := ⟨PySem.W.mg_of X G ga_OtherSize, xe_OtherSize, xk_OtherSize, xb_OtherSize, xt_OtherSize⟩
    x_RoomError := ⟨PySem.W.mg_of X G ga_RoomError, xe_RoomError, xk_RoomError, xb_RoomError, xt_RoomError⟩
    x_TooMany := ⟨PySem.W.mg_of X G ga_TooMany, xe_TooMany, xk_TooMany, xb_TooMany, xt_TooMany⟩
    x_TooWide := ⟨PySem.W.mg_of X G ga_TooWide, xe_TooWide, xk_TooWide, xb_TooWide, xt_TooWide⟩
    g_Book := PySem.W.mg_of X G ga_Book
    cl_Book := ⟨pg_Book, hd_Book, po_Book, sa_Book⟩
    r_Book := ⟨⟨pg_Book, hd_Book, po_Book, sa_Book⟩, na_Book_size, na_Book_steps, na_Book_made, na_Book_rows, na_Book_kept⟩
    g_Room := PySem.W.mg_of X G ga_Room
    cl_Room := ⟨pg_Room, hd_Room, po_Room, sa_Room⟩
    r_Room := ⟨⟨pg_Room, hd_Room, po_Room, sa_Room⟩, na_Room_size, na_Room_told, na_Room_book⟩
    m_NoNumber_RoomError := PySem.W.exm_ref xb_RoomError hdx_RoomError xt_RoomError sb_NoNumber_RoomError
    m_TooWide_RoomError := PySem.W.exm_ref xb_RoomError hdx_RoomError xt_RoomError sb_TooWide_RoomError
    e_NoNumber := ⟨eg_NoNumber, ek_NoNumber, xb_NoNumber, hdx_NoNumber, ea_NoNumber, e_hn, e_ht, em_NoNumber⟩
    e_TooWide := ⟨eg_TooWide, ek_TooWide, xb_TooWide, hdx_TooWide, ea_TooWide, e_hn, e_ht, em_TooWide⟩
    k_NoNumber_NoNumber := kf_NoNumber_NoNumber
    k_NoNumber_TooWide := kf_NoNumber_TooWide
    k_TooWide_NoNumber := kf_TooWide_NoNumber
    k_TooWide_TooWide := kf_TooWide_TooWide
    k_NoNumber_ValueError := kf_NoNumber_ValueError
    k_TooWide_ValueError := kf_TooWide_ValueError
  }
  have F_ask_size := fun_mk (st := s_ask_size) l_ask_size co_ask_size ke_ask_size
  have b_ask_size := F_ask_size.binds (ps := ["size"]) fun _ _ _ _ _ _ us hl => match us, hl with | [_], _ => rfl
  have F_rest := fun_mk (st := s_rest) l_rest co_rest ke_rest
  have b_rest := F_rest.binds (ps := ["size"]) fun _ _ _ _ _ _ us hl => match us, hl with | [_], _ => rfl
  have F_Book_init := fun_mk (st := s_Book_init) l_Book_init co_Book_init ke_Book_init
  have b_Book_init := F_Book_init.binds (ps := ["self", "size"]) fun _ _ _ _ _ _ us hl => match us, hl with | [_, _], _ => rfl
  have F_Room_init := fun_mk (st := s_Room_init) l_Room_init co_Room_init ke_Room_init
  have b_Room_init := F_Room_init.binds (ps := ["self", "size"]) fun _ _ _ _ _ _ us hl => match us, hl with | [_, _], _ => rfl
  have F_Book_note := fun_mk (st := s_Book_note) l_Book_note co_Book_note ke_Book_note
  have b_Book_note := F_Book_note.binds (ps := ["self", "step", "seating"]) fun _ _ _ _ _ _ us hl => match us, hl with | [_, _, _], _ => rfl
  have F_joined := fun_mk (st := s_joined) l_joined co_joined ke_joined
  have b_joined := F_joined.binds (ps := ["a", "b"]) fun _ _ _ _ _ _ us hl => match us, hl with | [_, _], _ => rfl
  have F_turned := fun_mk (st := s_turned) l_turned co_turned ke_turned
  have b_turned := F_turned.binds (ps := ["a"]) fun _ _ _ _ _ _ us hl => match us, hl with | [_], _ => rfl
  have F_Book_keep := fun_mk (st := s_Book_keep) l_Book_keep co_Book_keep ke_Book_keep
  have b_Book_keep := F_Book_keep.binds (ps := ["self", "at", "where", "went"]) fun _ _ _ _ _ _ us hl => match us, hl with | [_, _, _, _], _ => rfl
  have F_Book_sifted := fun_mk (st := s_Book_sifted) l_Book_sifted co_Book_sifted ke_Book_sifted
  have b_Book_sifted := F_Book_sifted.binds (ps := ["self", "seating"]) fun _ _ _ _ _ _ us hl => match us, hl with | [_, _], _ => rfl
  have F_Book_close := fun_mk (st := s_Book_close) l_Book_close co_Book_close ke_Book_close
  have b_Book_close := F_Book_close.binds (ps := ["self", "first"]) fun _ _ _ _ _ _ us hl => match us, hl with | [_, _], _ => rfl
  have F_is_seating := fun_mk (st := s_is_seating) l_is_seating co_is_seating ke_is_seating
  have b_is_seating := F_is_seating.binds (ps := ["row"]) fun _ _ _ _ _ _ us hl => match us, hl with | [_], _ => rfl
  have F_ask_seating := fun_mk (st := s_ask_seating) l_ask_seating co_ask_seating ke_ask_seating
  have b_ask_seating := F_ask_seating.binds (ps := ["a"]) fun _ _ _ _ _ _ us hl => match us, hl with | [_], _ => rfl
  have F_Room_ask := fun_mk (st := s_Room_ask) l_Room_ask co_Room_ask ke_Room_ask
  have b_Room_ask := F_Room_ask.binds (ps := ["self", "a"]) fun _ _ _ _ _ _ us hl => match us, hl with | [_, _], _ => rfl
  have F_Room_put_move := fun_mk (st := s_Room_put_move) l_Room_put_move co_Room_put_move ke_Room_put_move
  have b_Room_put_move := F_Room_put_move.binds (ps := ["self", "move"]) fun _ _ _ _ _ _ us hl => match us, hl with | [_, _], _ => rfl
  have F_L_whole := fun_mk (st := s_L_whole) l_L_whole co_L_whole ke_L_whole
  have b_L_whole := F_L_whole.binds (ps := ["found"]) fun _ _ _ _ _ _ us hl => match us, hl with | [_], _ => rfl
  have F_Room_how_many := fun_mk (st := s_Room_how_many) l_Room_how_many co_Room_how_many ke_Room_how_many
  have b_Room_how_many := F_Room_how_many.binds (ps := ["self"]) fun _ _ _ _ _ _ us hl => match us, hl with | [_], _ => rfl
  have F_Room_numbered := fun_mk (st := s_Room_numbered) l_Room_numbered co_Room_numbered ke_Room_numbered
  have b_Room_numbered := F_Room_numbered.binds (ps := ["self", "n"]) fun _ _ _ _ _ _ us hl => match us, hl with | [_, _], _ => rfl
  have F_many_times := fun_mk (st := s_many_times) l_many_times co_many_times ke_many_times
  have b_many_times := F_many_times.binds (ps := ["dyes", "count"]) fun _ _ _ _ _ _ us hl => match us, hl with | [_, _], _ => rfl
  have F_rings := fun_mk (st := s_rings) l_rings co_rings ke_rings
  have b_rings := F_rings.binds (ps := ["a"]) fun _ _ _ _ _ _ us hl => match us, hl with | [_], _ => rfl
  have F_dyed := fun_mk (st := s_dyed) l_dyed co_dyed ke_dyed
  have b_dyed := F_dyed.binds (ps := ["room", "dyes"]) fun _ _ _ _ _ _ us hl => match us, hl with | [_, _], _ => rfl
  have F_L_all_alike := fun_mk (st := s_L_all_alike) l_L_all_alike co_L_all_alike ke_L_all_alike
  have b_L_all_alike := F_L_all_alike.binds (ps := ["size", "dyes"]) fun _ _ _ _ _ _ us hl => match us, hl with | [_, _], _ => rfl
  have F_L_cell_at := fun_mk (st := s_L_cell_at) l_L_cell_at co_L_cell_at ke_L_cell_at
  have b_L_cell_at := F_L_cell_at.binds (ps := ["script", "k"]) fun _ _ _ _ _ _ us hl => match us, hl with | [_, _], _ => rfl
  have F_L_dyeing := fun_mk (st := s_L_dyeing) l_L_dyeing co_L_dyeing ke_L_dyeing
  have b_L_dyeing := F_L_dyeing.binds (ps := ["n", "dyes", "size"]) fun _ _ _ _ _ _ us hl => match us, hl with | [_, _, _], _ => rfl
  have F_L_moved := fun_mk (st := s_L_moved) l_L_moved co_L_moved ke_L_moved
  have b_L_moved := F_L_moved.binds (ps := ["row", "a"]) fun _ _ _ _ _ _ us hl => match us, hl with | [_, _], _ => rfl
  have F_L_counted := fun_mk (st := s_L_counted) l_L_counted co_L_counted ke_L_counted
  have b_L_counted := F_L_counted.binds (ps := ["reached", "dyes", "size"]) fun _ _ _ _ _ _ us hl => match us, hl with | [_, _, _], _ => rfl
  have F_L_just := fun_mk (st := s_L_just) l_L_just co_L_just ke_L_just
  have b_L_just := F_L_just.binds (ps := []) fun _ _ _ _ _ _ us hl => match us, hl with | [], _ => rfl
  have F_L_joined := fun_mk (st := s_L_joined) l_L_joined co_L_joined ke_L_joined
  have b_L_joined := F_L_joined.binds (ps := ["a", "b"]) fun _ _ _ _ _ _ us hl => match us, hl with | [_, _], _ => rfl
  have F_L_reached := fun_mk (st := s_L_reached) l_L_reached co_L_reached ke_L_reached
  have b_L_reached := F_L_reached.binds (ps := ["moves", "size"]) fun _ _ _ _ _ _ us hl => match us, hl with | [_, _], _ => rfl
  have F_L_refused_k19 := fun_mk (st := s_L_refused_k19) l_L_refused_k19 co_L_refused_k19 ke_L_refused_k19
  have b_L_refused_k19 := F_L_refused_k19.binds (ps := ["room", "dyes"]) fun _ _ _ _ _ _ us hl => match us, hl with | [_, _], _ => rfl
  have F_L_seating := fun_mk (st := s_L_seating) l_L_seating co_L_seating ke_L_seating
  have b_L_seating := F_L_seating.binds (ps := ["cell", "size"]) fun _ _ _ _ _ _ us hl => match us, hl with | [_, _], _ => rfl
  have F_L_wide_k19 := fun_mk (st := s_L_wide_k19) l_L_wide_k19 co_L_wide_k19 ke_L_wide_k19
  have b_L_wide_k19 := F_L_wide_k19.binds (ps := ["cell", "far"]) fun _ _ _ _ _ _ us hl => match us, hl with | [_, _], _ => rfl
  have F_law_k19 := fun_mk (st := s_law_k19) l_law_k19 co_law_k19 ke_law_k19
  refine ⟨PySem.W.fnOf "law" "law" (defArgs s_law_k19) (defBody s_law_k19) (defScope s_law_k19) .none kV_law_k19 dc_law_k19 pm_law_k19 an_law_k19 cd_law_k19 ct_law_k19, fun s v => .of_eq rfl, fun base _ _ => ?_⟩
  have c_ask_size : Cal l.prog w K mg base 1 "ask_size" ["size"] (sp_ask_size K _) := ⟨_, _, PySem.W.mg_of X G a_ask_size, ke_ask_size, b_ask_size, ok_ask_size (P := l.prog) (w := w) (base := base) T F_ask_size ⟩
  have c_rest : Cal l.prog w K mg base 2 "rest" ["size"] (sp_rest K _) := ⟨_, _, PySem.W.mg_of X G a_rest, ke_rest, b_rest, ok_rest (P := l.prog) (w := w) (base := base) T F_rest c_ask_size⟩
  have c_Book_init : CalI l.prog w K mg base 3 D_Book ["self", "size"] (sp_Book_init K _) := ⟨_, _, ⟨mk_Book, a_Book_init, i_Book_init, kc_Book⟩, b_Book_init, ok_Book_init (P := l.prog) (w := w) (base := base) T F_Book_init c_rest⟩
  have c_Room_init : CalI l.prog w K mg base 5 D_Room ["self", "size"] (sp_Room_init K _) := ⟨_, _, ⟨mk_Room, a_Room_init, i_Room_init, kc_Room⟩, b_Room_init, ok_Room_init (P := l.prog) (w := w) (base := base) T F_Room_init c_Book_init c_ask_size⟩
  have c_Book_note : CalM l.prog w K mg base 1 D_Book "note" ["self", "step", "seating"] (sp_Book_note K _) := ⟨_, _, ⟨a_Book_note, i_Book_note, ke_Book_note⟩, b_Book_note, ok_Book_note (P := l.prog) (w := w) (base := base) T F_Book_note ⟩
  have c_joined : Cal l.prog w K mg base 1 "joined" ["a", "b"] (sp_joined K _) := ⟨_, _, PySem.W.mg_of X G a_joined, ke_joined, b_joined, ok_joined (P := l.prog) (w := w) (base := base) T F_joined ⟩
  have c_turned : Cal l.prog w K mg base 1 "turned" ["a"] (sp_turned K _) := ⟨_, _, PySem.W.mg_of X G a_turned, ke_turned, b_turned, ok_turned (P := l.prog) (w := w) (base := base) T F_turned ⟩
  have c_Book_keep : CalM l.prog w K mg base 2 D_Book "keep" ["self", "at", "where", "went"] (sp_Book_keep K _) := ⟨_, _, ⟨a_Book_keep, i_Book_keep, ke_Book_keep⟩, b_Book_keep, ok_Book_keep (P := l.prog) (w := w) (base := base) T F_Book_keep c_Book_note c_joined c_turned⟩
  have c_Book_sifted : CalM l.prog w K mg base 2 D_Book "sifted" ["self", "seating"] (sp_Book_sifted K _) := ⟨_, _, ⟨a_Book_sifted, i_Book_sifted, ke_Book_sifted⟩, b_Book_sifted, ok_Book_sifted (P := l.prog) (w := w) (base := base) T F_Book_sifted c_joined c_turned⟩
  have c_Book_close : CalM l.prog w K mg base 3 D_Book "close" ["self", "first"] (sp_Book_close K _) := ⟨_, _, ⟨a_Book_close, i_Book_close, ke_Book_close⟩, b_Book_close, ok_Book_close (P := l.prog) (w := w) (base := base) T F_Book_close c_Book_keep c_Book_note c_Book_sifted c_joined⟩
  have c_is_seating : Cal l.prog w K mg base 1 "is_seating" ["row"] (sp_is_seating K _) := ⟨_, _, PySem.W.mg_of X G a_is_seating, ke_is_seating, b_is_seating, ok_is_seating (P := l.prog) (w := w) (base := base) T F_is_seating ⟩
  have c_ask_seating : Cal l.prog w K mg base 2 "ask_seating" ["a"] (sp_ask_seating K _) := ⟨_, _, PySem.W.mg_of X G a_ask_seating, ke_ask_seating, b_ask_seating, ok_ask_seating (P := l.prog) (w := w) (base := base) T F_ask_seating c_is_seating⟩
  have c_Room_ask : CalM l.prog w K mg base 3 D_Room "ask" ["self", "a"] (sp_Room_ask K _) := ⟨_, _, ⟨a_Room_ask, i_Room_ask, ke_Room_ask⟩, b_Room_ask, ok_Room_ask (P := l.prog) (w := w) (base := base) T F_Room_ask c_ask_seating⟩
  have c_Room_put_move : CalM l.prog w K mg base 4 D_Room "put_move" ["self", "move"] (sp_Room_put_move K _) := ⟨_, _, ⟨a_Room_put_move, i_Room_put_move, ke_Room_put_move⟩, b_Room_put_move, ok_Room_put_move (P := l.prog) (w := w) (base := base) T F_Room_put_move c_Book_close c_Book_note c_Room_ask⟩
  have c_L_whole : Cal l.prog w K mg base 1 "_law_whole" ["found"] (sp_L_whole K _) := ⟨_, _, PySem.W.mg_of X G a_L_whole, ke_L_whole, b_L_whole, ok_L_whole (P := l.prog) (w := w) (base := base) T F_L_whole ⟩
  have c_Room_how_many : CalM l.prog w K mg base 1 D_Room "how_many" ["self"] (sp_Room_how_many K _) := ⟨_, _, ⟨a_Room_how_many, i_Room_how_many, ke_Room_how_many⟩, b_Room_how_many, ok_Room_how_many (P := l.prog) (w := w) (base := base) T F_Room_how_many ⟩
  have c_Room_numbered : CalM l.prog w K mg base 3 D_Room "numbered" ["self", "n"] (sp_Room_numbered K _) := ⟨_, _, ⟨a_Room_numbered, i_Room_numbered, ke_Room_numbered⟩, b_Room_numbered, ok_Room_numbered (P := l.prog) (w := w) (base := base) T F_Room_numbered c_Room_how_many c_joined c_rest⟩
  have c_many_times : Cal l.prog w K mg base 1 "many_times" ["dyes", "count"] (sp_many_times K _) := ⟨_, _, PySem.W.mg_of X G a_many_times, ke_many_times, b_many_times, ok_many_times (P := l.prog) (w := w) (base := base) T F_many_times ⟩
  have c_rings : Cal l.prog w K mg base 3 "rings" ["a"] (sp_rings K _) := ⟨_, _, PySem.W.mg_of X G a_rings, ke_rings, b_rings, ok_rings (P := l.prog) (w := w) (base := base) T F_rings c_ask_seating⟩
  have c_dyed : Cal l.prog w K mg base 4 "dyed" ["room", "dyes"] (sp_dyed K _) := ⟨_, _, PySem.W.mg_of X G a_dyed, ke_dyed, b_dyed, ok_dyed (P := l.prog) (w := w) (base := base) T F_dyed c_Room_how_many c_Room_numbered c_many_times c_rings⟩
  have c_L_all_alike : Cal l.prog w K mg base 7 "_law_all_alike" ["size", "dyes"] (sp_L_all_alike K _) := ⟨_, _, PySem.W.mg_of X G a_L_all_alike, ke_L_all_alike, b_L_all_alike, ok_L_all_alike (P := l.prog) (w := w) (base := base) T F_L_all_alike c_Room_init c_Room_put_move c_L_whole c_dyed⟩
  have c_L_cell_at : Cal l.prog w K mg base 1 "_law_cell_at" ["script", "k"] (sp_L_cell_at K _) := ⟨_, _, PySem.W.mg_of X G a_L_cell_at, ke_L_cell_at, b_L_cell_at, ok_L_cell_at (P := l.prog) (w := w) (base := base) T F_L_cell_at ⟩
  have c_L_dyeing : Cal l.prog w K mg base 1 "_law_dyeing" ["n", "dyes", "size"] (sp_L_dyeing K _) := ⟨_, _, PySem.W.mg_of X G a_L_dyeing, ke_L_dyeing, b_L_dyeing, ok_L_dyeing (P := l.prog) (w := w) (base := base) T F_L_dyeing ⟩
  have c_L_moved : Cal l.prog w K mg base 1 "_law_moved" ["row", "a"] (sp_L_moved K _) := ⟨_, _, PySem.W.mg_of X G a_L_moved, ke_L_moved, b_L_moved, ok_L_moved (P := l.prog) (w := w) (base := base) T F_L_moved ⟩
  have c_L_counted : Cal l.prog w K mg base 2 "_law_counted" ["reached", "dyes", "size"] (sp_L_counted K _) := ⟨_, _, PySem.W.mg_of X G a_L_counted, ke_L_counted, b_L_counted, ok_L_counted (P := l.prog) (w := w) (base := base) T F_L_counted c_L_dyeing c_L_moved⟩
  have c_L_just : Cal l.prog w K mg base 7 "_law_just" [] (sp_L_just K _) := ⟨_, _, PySem.W.mg_of X G a_L_just, ke_L_just, b_L_just, ok_L_just (P := l.prog) (w := w) (base := base) T F_L_just c_Room_init c_Room_put_move c_L_whole c_dyed⟩
  have c_L_joined : Cal l.prog w K mg base 1 "_law_joined" ["a", "b"] (sp_L_joined K _) := ⟨_, _, PySem.W.mg_of X G a_L_joined, ke_L_joined, b_L_joined, ok_L_joined (P := l.prog) (w := w) (base := base) T F_L_joined ⟩
  have c_L_reached : Cal l.prog w K mg base 2 "_law_reached" ["moves", "size"] (sp_L_reached K _) := ⟨_, _, PySem.W.mg_of X G a_L_reached, ke_L_reached, b_L_reached, ok_L_reached (P := l.prog) (w := w) (base := base) T F_L_reached c_L_joined⟩
  have c_L_refused_k19 : Cal l.prog w K mg base 5 "_law_refused" ["room", "dyes"] (sp_L_refused_k19 K _) := ⟨_, _, PySem.W.mg_of X G a_L_refused_k19, ke_L_refused_k19, b_L_refused_k19, ok_L_refused_k19 (P := l.prog) (w := w) (base := base) T F_L_refused_k19 c_dyed⟩
  have c_L_seating : Cal l.prog w K mg base 1 "_law_seating" ["cell", "size"] (sp_L_seating K _) := ⟨_, _, PySem.W.mg_of X G a_L_seating, ke_L_seating, b_L_seating, ok_L_seating (P := l.prog) (w := w) (base := base) T F_L_seating ⟩
  have c_L_wide_k19 : Cal l.prog w K mg base 7 "_law_wide" ["cell", "far"] (sp_L_wide_k19 K _) := ⟨_, _, PySem.W.mg_of X G a_L_wide_k19, ke_L_wide_k19, b_L_wide_k19, ok_L_wide_k19 (P := l.prog) (w := w) (base := base) T F_L_wide_k19 c_Room_init c_Room_put_move c_L_refused_k19⟩
  exact ok_law_k19 (P := l.prog) (w := w) (base := base) T F_law_k19 c_Room_init c_Room_put_move c_L_all_alike c_L_cell_at c_L_counted c_L_just c_L_reached c_L_refused_k19 c_L_seating c_L_whole c_L_wide_k19 c_dyed
theorem walk {l : PySem.W.OpenLaw} {q : Program} {loose : List Str} {XP : (Str → Option Value) → Heap → Prop} {YP : World → Heap → Prop} {d : DefRec} {K : Params → PySem.W.Frag} (hn : l.most = some 63) (hdf : d.params.defaults = [])
    (hY : ∀ (w : World) (h : Heap), YP w h → (K w.params).In h)
    (F : ∀ (w : World) (mg : Str → Option Value) (fa : Addr) (h : Heap), (K w.params).In h → h.Ns mainGlobals mg → mg d.name = some (.ref fa) →
      ∃ fd : FuncData, (∀ (s : Shared) (u : Value), BindsTo s fd ⟨[u], []⟩ [("script", u)]) ∧ ∀ base : Heap, (K w.params).In base → base.Ns mainGlobals mg → FnOk l.prog w (K w.params) mg base (L2.CX l.prog w) 8 fa fd ["script"] (sp_law (K w.params))) :
    PySem.W.WalkO q loose XP YP l.row.toRowW d [] (fun f vs => PySem.call f vs) :=
  L2.walk_of (n := 63) (k := 8) (x := "script") (CX := fun w => L2.CX l.prog w) (sp := fun w => sp_law (K w.params)) hn (by decide) hdf ⟨rfl, by decide, by decide⟩ hY F (fun _ _ a ns hl _ hS => ⟨a, ns, rfl, hS, hl, fun _ => rfl⟩) fun _ _ _ _ _ z => cx_none z
end Shf
open PySem PySem.W PyProof.Rows
set_option maxRecDepth 100000 in
set_option maxHeartbeats 0 in
theorem PySem.Challenge.cw_shiftroom_k19_dyeings_told_apart_holds : PySem.Challenge.rw_shiftroom_k19_dyeings_told_apart.Holds := by
  w_on; o_law; k_head; (case hw => w_witness2)
  k_fill
  refine Shf.walk (l := PySem.Challenge.rw_shiftroom_k19_dyeings_told_apart) rfl rfl (fun w h Y => PySem.W.kIn_of Y) ?F
  case F =>
    intro w mg fa h KX G hmg
    refine' Shf.all_mk KX G hmg ?z_ValueError ?z_bool ?z_int ?z_isinstance ?z_len ?z_list ?z_min ?z_range ?z_sorted ?z_tuple ?c_MANY ?c_MOST ?c_WIDE ?ga_NoNumber ?xe_NoNumber ?xk_NoNumber ?xb_NoNumber ?xt_NoNumber ?ga_NoSeating ?xe_NoSeating ?xk_NoSeating ?xb_NoSeating ?xt_NoSeating ?ga_NoSize ?xe_NoSize ?xk_NoSize ?xb_NoSize ?xt_NoSize ?ga_OtherSize ?xe_OtherSize ?xk_OtherSize ?xb_OtherSize ?xt_OtherSize ?ga_RoomError ?xe_RoomError ?xk_RoomError ?xb_RoomError ?xt_RoomError ?ga_TooMany ?xe_TooMany ?xk_TooMany ?xb_TooMany ?xt_TooMany ?ga_TooWide ?xe_TooWide ?xk_TooWide ?xb_TooWide ?xt_TooWide ?ga_Book ?pg_Book ?hd_Book ?po_Book ?sa_Book ?na_Book_size ?na_Book_steps ?na_Book_made ?na_Book_rows ?na_Book_kept ?mk_Book ?kc_Book ?ga_Room ?pg_Room ?hd_Room ?po_Room ?sa_Room ?na_Room_size ?na_Room_told ?na_Room_book ?mk_Room ?kc_Room ?hdx_RoomError ?sb_NoNumber_RoomError ?sb_TooWide_RoomError ?eg_NoNumber ?ek_NoNumber ?hdx_NoNumber ?ea_NoNumber ?e_hn ?e_ht ?em_NoNumber ?eg_TooWide ?ek_TooWide ?hdx_TooWide ?ea_TooWide ?em_TooWide ?kf_NoNumber_NoNumber ?kf_NoNumber_TooWide ?kf_TooWide_NoNumber ?kf_TooWide_TooWide ?kf_NoNumber_ValueError ?kf_TooWide_ValueError ?a_ask_size ?l_ask_size ?co_ask_size ?ke_ask_size ?a_rest ?l_rest ?co_rest ?ke_rest ?a_Book_init ?i_Book_init ?l_Book_init ?co_Book_init ?ke_Book_init ?a_Room_init ?i_Room_init ?l_Room_init ?co_Room_init ?ke_Room_init ?a_Book_note ?i_Book_note ?l_Book_note ?co_Book_note ?ke_Book_note ?a_joined ?l_joined ?co_joined ?ke_joined ?a_turned ?l_turned ?co_turned ?ke_turned ?a_Book_keep ?i_Book_keep ?l_Book_keep ?co_Book_keep ?ke_Book_keep ?a_Book_sifted ?i_Book_sifted ?l_Book_sifted ?co_Book_sifted ?ke_Book_sifted ?a_Book_close ?i_Book_close ?l_Book_close ?co_Book_close ?ke_Book_close ?a_is_seating ?l_is_seating ?co_is_seating ?ke_is_seating ?a_ask_seating ?l_ask_seating ?co_ask_seating ?ke_ask_seating ?a_Room_ask ?i_Room_ask ?l_Room_ask ?co_Room_ask ?ke_Room_ask ?a_Room_put_move ?i_Room_put_move ?l_Room_put_move ?co_Room_put_move ?ke_Room_put_move ?a_L_whole ?l_L_whole ?co_L_whole ?ke_L_whole ?a_Room_how_many ?i_Room_how_many ?l_Room_how_many ?co_Room_how_many ?ke_Room_how_many ?a_Room_numbered ?i_Room_numbered ?l_Room_numbered ?co_Room_numbered ?ke_Room_numbered ?a_many_times ?l_many_times ?co_many_times ?ke_many_times ?a_rings ?l_rings ?co_rings ?ke_rings ?a_dyed ?l_dyed ?co_dyed ?ke_dyed ?a_L_all_alike ?l_L_all_alike ?co_L_all_alike ?ke_L_all_alike ?a_L_cell_at ?l_L_cell_at ?co_L_cell_at ?ke_L_cell_at ?a_L_dyeing ?l_L_dyeing ?co_L_dyeing ?ke_L_dyeing ?a_L_moved ?l_L_moved ?co_L_moved ?ke_L_moved ?a_L_counted ?l_L_counted ?co_L_counted ?ke_L_counted ?a_L_just ?l_L_just ?co_L_just ?ke_L_just ?a_L_joined ?l_L_joined ?co_L_joined ?ke_L_joined ?a_L_reached ?l_L_reached ?co_L_reached ?ke_L_reached ?a_L_refused_k19 ?l_L_refused_k19 ?co_L_refused_k19 ?ke_L_refused_k19 ?a_L_seating ?l_L_seating ?co_L_seating ?ke_L_seating ?a_L_wide_k19 ?l_L_wide_k19 ?co_L_wide_k19 ?ke_L_wide_k19 ?a_law_k19 ?l_law_k19 ?co_law_k19 ?ke_law_k19
    (case z_ValueError => k_is)
    (case z_bool => k_is)
    (case z_int => k_is)
    (case z_isinstance => k_is)
    (case z_len => k_is)
    (case z_list => k_is)
    (case z_min => k_is)
    (case z_range => k_is)
    (case z_sorted => k_is)
    (case z_tuple => k_is)
    (case c_MANY => k_is)
    (case c_MOST => k_is)
    (case c_WIDE => k_is)
    (case ga_NoNumber => k_is)
    (case xe_NoNumber => k_exc)
    (case xk_NoNumber => k_is)
    (case xb_NoNumber => k_is)
    (case xt_NoNumber => k_is)
    (case ga_NoSeating => k_is)
    (case xe_NoSeating => k_exc)
    (case xk_NoSeating => k_is)
    (case xb_NoSeating => k_is)
    (case xt_NoSeating => k_is)
    (case ga_NoSize => k_is)
    (case xe_NoSize => k_exc)
    (case xk_NoSize => k_is)
    (case xb_NoSize => k_is)
    (case xt_NoSize => k_is)
    (case ga_OtherSize => k_is)
    (case xe_OtherSize => k_exc)
    (case xk_OtherSize => k_is)
    (case xb_OtherSize => k_is)
    (case xt_OtherSize => k_is)
    (case ga_RoomError => k_is)
    (case xe_RoomError => k_exc)
    (case xk_RoomError => k_is)
    (case xb_RoomError => k_is)
    (case xt_RoomError => k_is)
    (case ga_TooMany => k_is)
    (case xe_TooMany => k_exc)
    (case xk_TooMany => k_is)
    (case xb_TooMany => k_is)
    (case xt_TooMany => k_is)
    (case ga_TooWide => k_is)
    (case xe_TooWide => k_exc)
    (case xk_TooWide => k_is)
    (case xb_TooWide => k_is)
    (case xt_TooWide => k_is)
    (case ga_Book => k_is)
    (case pg_Book => k_is)
    (case hd_Book => k_is)
    (case po_Book => k_is)
    (case sa_Book => k_is)
    (case na_Book_size => k_is)
    (case na_Book_steps => k_is)
    (case na_Book_made => k_is)
    (case na_Book_rows => k_is)
    (case na_Book_kept => k_is)
    (case mk_Book => k_is)
    (case kc_Book => k_is)
    (case ga_Room => k_is)
    (case pg_Room => k_is)
    (case hd_Room => k_is)
    (case po_Room => k_is)
    (case sa_Room => k_is)
    (case na_Room_size => k_is)
    (case na_Room_told => k_is)
    (case na_Room_book => k_is)
    (case mk_Room => k_is)
    (case kc_Room => k_is)
    (case hdx_RoomError => k_is)
    (case sb_NoNumber_RoomError => k_is)
    (case sb_TooWide_RoomError => k_is)
    (case eg_NoNumber => k_is)
    (case ek_NoNumber => k_is)
    (case hdx_NoNumber => k_is)
    (case ea_NoNumber => k_is)
    (case e_hn => k_is)
    (case e_ht => k_is)
    (case em_NoNumber => k_is)
    (case eg_TooWide => k_is)
    (case ek_TooWide => k_is)
    (case hdx_TooWide => k_is)
    (case ea_TooWide => k_is)
    (case em_TooWide => k_is)
    (case kf_NoNumber_NoNumber => kit_is)
    (case kf_NoNumber_TooWide => kit_is)
    (case kf_TooWide_NoNumber => kit_is)
    (case kf_TooWide_TooWide => kit_is)
    (case kf_NoNumber_ValueError => kit_is)
    (case kf_TooWide_ValueError => kit_is)
    (case a_ask_size => k_is)
    (case l_ask_size => k_is)
    (case co_ask_size => k_is)
    (case ke_ask_size => k_is)
    (case a_rest => k_is)
    (case l_rest => k_is)
    (case co_rest => k_is)
    (case ke_rest => k_is)
    (case a_Book_init => k_is)
    (case i_Book_init => k_is)
    (case l_Book_init => k_is)
    (case co_Book_init => k_is)
    (case ke_Book_init => k_is)
    (case a_Room_init => k_is)
    (case i_Room_init => k_is)
    (case l_Room_init => k_is)
    (case co_Room_init => k_is)
    (case ke_Room_init => k_is)
    (case a_Book_note => k_is)
    (case i_Book_note => k_is)
    (case l_Book_note => k_is)
    (case co_Book_note => k_is)
    (case ke_Book_note => k_is)
    (case a_joined => k_is)
    (case l_joined => k_is)
    (case co_joined => k_is)
    (case ke_joined => k_is)
    (case a_turned => k_is)
    (case l_turned => k_is)
    (case co_turned => k_is)
    (case ke_turned => k_is)
    (case a_Book_keep => k_is)
    (case i_Book_keep => k_is)
    (case l_Book_keep => k_is)
    (case co_Book_keep => k_is)
    (case ke_Book_keep => k_is)
    (case a_Book_sifted => k_is)
    (case i_Book_sifted => k_is)
    (case l_Book_sifted => k_is)
    (case co_Book_sifted => k_is)
    (case ke_Book_sifted => k_is)
    (case a_Book_close => k_is)
    (case i_Book_close => k_is)
    (case l_Book_close => k_is)
    (case co_Book_close => k_is)
    (case ke_Book_close => k_is)
    (case a_is_seating => k_is)
    (case l_is_seating => k_is)
    (case co_is_seating => k_is)
    (case ke_is_seating => k_is)
    (case a_ask_seating => k_is)
    (case l_ask_seating => k_is)
    (case co_ask_seating => k_is)
    (case ke_ask_seating => k_is)
    (case a_Room_ask => k_is)
    (case i_Room_ask => k_is)
    (case l_Room_ask => k_is)
    (case co_Room_ask => k_is)
    (case ke_Room_ask => k_is)
    (case a_Room_put_move => k_is)
    (case i_Room_put_move => k_is)
    (case l_Room_put_move => k_is)
    (case co_Room_put_move => k_is)
    (case ke_Room_put_move => k_is)
    (case a_L_whole => k_is)
    (case l_L_whole => k_is)
    (case co_L_whole => k_is)
    (case ke_L_whole => k_is)
    (case a_Room_how_many => k_is)
    (case i_Room_how_many => k_is)
    (case l_Room_how_many => k_is)
    (case co_Room_how_many => k_is)
    (case ke_Room_how_many => k_is)
    (case a_Room_numbered => k_is)
    (case i_Room_numbered => k_is)
    (case l_Room_numbered => k_is)
    (case co_Room_numbered => k_is)
    (case ke_Room_numbered => k_is)
    (case a_many_times => k_is)
    (case l_many_times => k_is)
    (case co_many_times => k_is)
    (case ke_many_times => k_is)
    (case a_rings => k_is)
    (case l_rings => k_is)
    (case co_rings => k_is)
    (case ke_rings => k_is)
    (case a_dyed => k_is)
    (case l_dyed => k_is)
    (case co_dyed => k_is)
    (case ke_dyed => k_is)
    (case a_L_all_alike => k_is)
    (case l_L_all_alike => k_is)
    (case co_L_all_alike => k_is)
    (case ke_L_all_alike => k_is)
    (case a_L_cell_at => k_is)
    (case l_L_cell_at => k_is)
    (case co_L_cell_at => k_is)
    (case ke_L_cell_at => k_is)
    (case a_L_dyeing => k_is)
    (case l_L_dyeing => k_is)
    (case co_L_dyeing => k_is)
    (case ke_L_dyeing => k_is)
    (case a_L_moved => k_is)
    (case l_L_moved => k_is)
    (case co_L_moved => k_is)
    (case ke_L_moved => k_is)
    (case a_L_counted => k_is)
    (case l_L_counted => k_is)
    (case co_L_counted => k_is)
    (case ke_L_counted => k_is)
    (case a_L_just => k_is)
    (case l_L_just => k_is)
    (case co_L_just => k_is)
    (case ke_L_just => k_is)
    (case a_L_joined => k_is)
    (case l_L_joined => k_is)
    (case co_L_joined => k_is)
    (case ke_L_joined => k_is)
    (case a_L_reached => k_is)
    (case l_L_reached => k_is)
    (case co_L_reached => k_is)
    (case ke_L_reached => k_is)
    (case a_L_refused_k19 => k_is)
    (case l_L_refused_k19 => k_is)
    (case co_L_refused_k19 => k_is)
    (case ke_L_refused_k19 => k_is)
    (case a_L_seating => k_is)
    (case l_L_seating => k_is)
    (case co_L_seating => k_is)
    (case ke_L_seating => k_is)
    (case a_L_wide_k19 => k_is)
    (case l_L_wide_k19 => k_is)
    (case co_L_wide_k19 => k_is)
    (case ke_L_wide_k19 => k_is)
    (case a_law_k19 => k_is)
    (case l_law_k19 => k_is)
    (case co_law_k19 => k_is)
    (case ke_law_k19 => k_is)
#print axioms PySem.Challenge.cw_shiftroom_k19_dyeings_told_apart_holds
