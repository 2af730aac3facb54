import PyProof.Rows.All
import Wide.All
import OpenK.AllK
import Wide.FinOn
import HandS.ForMost
import HandS.Exc
import HandS.TryOnly
import HandS.ExcOwn
import HandS.WordsExc
import HandS.ExcIs
import HandS.IsInst
import HandS.Conv
import HandS.SortInts
import HandS.SortRule
import HandS.Deep
import HandS.Steps
import HandS.TupAny
import HandS.More
import HandS.Rev
import HandS.TupSets
import KE.RegKIsAll
import HandS.RevRange
import PyProof.CollectIter
import PyProof.WalksMore
import HandS.SetFor
import HandS.Strs
import KE.GoesComp
import KE.GoesRaise
import KE.KAsSuite
import HandS.Walk
import HandS.Codes
import PySem.Challenge.RW_shiftroom_k08_read
set_option Elab.async false
set_option linter.all false
set_option maxRecDepth 100000
set_option maxHeartbeats 4000000
/-! Shiftroom: the rules that every def's proof here stands on. -/
namespace Shf
open PySem L2

/-- the addresses of the classes -/
structure Gd where
  w : World
  RoomError : Addr := 0
  NoSize : Addr := 0
  NoSeating : Addr := 0
  OtherSize : Addr := 0
  NoSeat : Addr := 0
  NoNumber : Addr := 0
  TooMany : Addr := 0
  Unreached : Addr := 0
  TooWide : Addr := 0
  NotRead : Addr := 0
  Room : Addr := 0
  Book : Addr := 0

/-! ### what an exception may be wished -/
abbrev wE (E : XK) : WX := fun cls d _ H => E cls d H
def tRaiseW (W : WX) (C : Addr) : TS := fun _ σ H => W (.ref C) none σ H
theorem passE0 {X : Cx} (σ : L2.St) : PassesAt (L2.CX X.prog X.w) X σ E0 := fun pins H s e s' I c => passL pins σ H s e s' I c
theorem cx_none {P : Program} {w : World} {H : Hp} {s : Shared} {e : Value} {s' : Shared} (z : L2.CX P w [] H s (fun _ _ _ => False) e s') : False := by
  obtain ⟨_, _, _, _, _, _, _, _, _, _, _, _, z⟩ := z
  exact z

/-! ### a def, a method, a class as a callee -/
structure Cal (P : Program) (w : World) (K : PySem.W.Frag) (mg : Str → Option Value) (base : Heap) (k : Nat) (x : Str) (ps : List Str) (sp : Sp) : Prop where mk' ::
  ex : ∃ f fd, mg x = some (.ref f) ∧ PySem.W.keepIn K (.ref f) = true ∧ Binds K fd ps [] ∧ FnOk P w K mg base (L2.CX P w) k f fd ps sp
theorem Cal.mk {P : Program} {w : World} {K : PySem.W.Frag} {mg : Str → Option Value} {base : Heap} {k : Nat} {x : Str} {ps : List Str} {sp : Sp} (f : Addr) (fd : FuncData) (a : mg x = some (.ref f)) (b : PySem.W.keepIn K (.ref f) = true) (c : Binds K fd ps []) (d : FnOk P w K mg base (L2.CX P w) k f fd ps sp) : Cal P w K mg base k x ps sp := ⟨⟨f, fd, a, b, c, d⟩⟩
structure CalM (P : Program) (w : World) (K : PySem.W.Frag) (mg : Str → Option Value) (base : Heap) (k : Nat) (C : Addr) (m : Str) (ps : List Str) (sp : Sp) : Prop where mk' ::
  ex : ∃ f fd, Meth K C m f ∧ Binds K fd ps [] ∧ FnOk P w K mg base (L2.CX P w) k f fd ps sp
theorem CalM.mk {P : Program} {w : World} {K : PySem.W.Frag} {mg : Str → Option Value} {base : Heap} {k : Nat} {C : Addr} {m : Str} {ps : List Str} {sp : Sp} (f : Addr) (fd : FuncData) (a : Meth K C m f) (c : Binds K fd ps []) (d : FnOk P w K mg base (L2.CX P w) k f fd ps sp) : CalM P w K mg base k C m ps sp := ⟨⟨f, fd, a, c, d⟩⟩
structure CalI (P : Program) (w : World) (K : PySem.W.Frag) (mg : Str → Option Value) (base : Heap) (k : Nat) (C : Addr) (ps : List Str) (sp : Sp) : Prop where mk' ::
  ex : ∃ f fd, Mk K C f ∧ Binds K fd ps [] ∧ FnOk P w K mg base (L2.CX P w) k f fd ps sp
theorem CalI.mk {P : Program} {w : World} {K : PySem.W.Frag} {mg : Str → Option Value} {base : Heap} {k : Nat} {C : Addr} {ps : List Str} {sp : Sp} (f : Addr) (fd : FuncData) (a : Mk K C f) (c : Binds K fd ps []) (d : FnOk P w K mg base (L2.CX P w) k f fd ps sp) : CalI P w K mg base k C ps sp := ⟨⟨f, fd, a, c, d⟩⟩

section
variable {X : Cx} {k : Nat} {x m : Str} {C : Addr} {ps : List Str} {sp : Sp} {E : L2.St → XK} {e o : Expr} {es : List Expr} {t : TA} {ta : TE} {p pos apos : Pos}
theorem pe_cal (c : Cal X.prog X.w X.K X.mg X.base k x ps sp) (hr : Room k X.A) (hg : Gl X x) (hx : ∀ σ, PassesAt (L2.CX X.prog X.w) X σ (E σ)) (ha : PA X (e :: es) t) (hdb : (x == ("__debug__" : Str)) = false := by decide)
    (he : starEach (e :: es) X.env = (false, eval e X.env) :: starEach es X.env := by rfl) (hpl : (backTo pos (starEach es X.env)).any (·.1) = false := by rfl) : PE X (.Call (.Name x p) (e :: es) [] pos) (tCallS sp E t) := by
  obtain ⟨f, fd, a, b, c, d⟩ := c.ex
  exact pe_callS d hr hg a b c hx ha hdb he hpl
theorem pe_cal0 (c : Cal X.prog X.w X.K X.mg X.base k x ps sp) (hr : Room k X.A) (hg : Gl X x) (hx : ∀ σ, PassesAt (L2.CX X.prog X.w) X σ (E σ)) (hdb : (x == ("__debug__" : Str)) = false := by decide) : PE X (.Call (.Name x p) [] [] pos) (tCallS sp E tNil) := by
  obtain ⟨f, fd, a, b, c, d⟩ := c.ex
  refine ⟨fun pins s σ H Q I h => ?_⟩
  refine wpAny_Call_Name_kw (ld_glob I hg a ?_ hdb)
  exact PySem.W.callWith_K0 I.kIn b (run_fnS (us := []) (vs := []) d hr c (hx σ) I .nil h)
def tMethS (C : Addr) (m : Str) (sp : Sp) (E : L2.St → XK) (ta : TE) (t : TA) : TE := fun σ H Q => ta σ H fun x H1 => ∃ a dx fs, x = .ref a ∧ H1 a = some (.ins C dx fs) ∧ fs.lookup m = none ∧
  t σ H1 fun vs H2 => sp (x :: vs) H2 Q (E σ)
theorem pe_calM {pl : Sem Bool} (he : PE X o ta) (c : Cls X.K C) (cm : CalM X.prog X.w X.K X.mg X.base k C m ps sp) (hr : Room k X.A) (hx : ∀ σ, PassesAt (L2.CX X.prog X.w) X σ (E σ)) (ha : PA X (e :: es) t)
    (hst : starEach (e :: es) X.env = (false, eval e X.env) :: starEach es X.env := by rfl) (hpl : (backTo pos (starEach es X.env)).any (·.1) = false := by rfl)
    (ht : eval (.Call (.Attribute o m apos) (e :: es) [] pos) X.env = (do
      let ov ← eval o X.env
      standAt apos.atName
      let (f, first) ← holding [ov] (getMethod ov m pl)
      callWith pos f first (backTo pos (starEach (e :: es) X.env)) (backToKw pos (keywordEach [] X.env))) := by rfl) : PE X (.Call (.Attribute o m apos) (e :: es) [] pos) (tMethS C m sp E ta t) := by
  obtain ⟨f, fd, hm, hb, d⟩ := cm.ex
  refine ⟨fun pins s σ H Q I h => ?_⟩
  refine PySem.W.methodCall_KW (pl := pl) (thn (he.run pins s σ H _ I h) fun u s1 ⟨x, H1, I1, rx, a, dx, fs, ex, ea, l, q⟩ => ?_) ht
  subst ex
  obtain rfl : u = Value.ref a := rx
  refine getmeth_ok I1 ea c hm l ?_
  refine PySem.W.callWith_K (first := [.ref a]) (h₀ := X.base) I.ok.mod.kin hm.kp (thn (ha.run pos pins s1 σ H1 _ I1 q) fun us s2 ⟨vs, H2, I2, r, q2⟩ => ⟨I2.kIn, ?_⟩) hst hpl
  exact run_fnS (us := .ref a :: us) (vs := .ref a :: vs) d hr hb (hx σ) I2 (.cons rfl r) q2
theorem pe_calM0 {pl : Sem Bool} (he : PE X o ta) (c : Cls X.K C) (cm : CalM X.prog X.w X.K X.mg X.base k C m ps sp) (hr : Room k X.A) (hx : ∀ σ, PassesAt (L2.CX X.prog X.w) X σ (E σ))
    (ht : eval (.Call (.Attribute o m apos) [] [] pos) X.env = (do
      let ov ← eval o X.env
      standAt apos.atName
      let (f, first) ← holding [ov] (getMethod ov m pl)
      callWith pos f first (backTo pos (starEach [] X.env)) (backToKw pos (keywordEach [] X.env))) := by rfl) : PE X (.Call (.Attribute o m apos) [] [] pos) (tMethS C m sp E ta tNil) := by
  obtain ⟨f, fd, hm, hb, d⟩ := cm.ex
  refine ⟨fun pins s σ H Q I h => ?_⟩
  refine PySem.W.methodCall_KW (pl := pl) (thn (he.run pins s σ H _ I h) fun u s1 ⟨x, H1, I1, rx, a, dx, fs, ex, ea, l, q⟩ => ?_) ht
  subst ex
  obtain rfl : u = Value.ref a := rx
  refine getmeth_ok I1 ea c hm l ?_
  exact PySem.W.callWith_K0 (first := [.ref a]) I1.kIn hm.kp (run_fnS (us := [.ref a]) (vs := [.ref a]) d hr hb (hx σ) I1 (.cons rfl .nil) q)
/-- C(..): a new instance and its dict, then __init__, which may raise what is wished -/
def tMakeS (C : Addr) (sp : Sp) (E : L2.St → XK) (t : TA) : TE := fun σ H Q => t σ H fun vs H1 => ∀ x dx, H1 x = none → H1 dx = none → dx ≠ x →
  sp (.ref x :: vs) (upd (upd H1 dx (.own x)) x (.ins C dx [])) (fun v H2 => v = .non ∧ Q (.ref x) H2) (E σ)
theorem run_makeS {pins : List (Addr × Obj)} {σ : L2.St} {H : Hp} {s : Shared} {Q : VK} {us : List Value} {vs : List V} {f : Addr} {fd : FuncData} {E : L2.St → XK} (M : Mk X.K C f) (F : FnOk X.prog X.w X.K X.mg X.base (L2.CX X.prog X.w) k f fd ps sp) (hr : Room (k + 1) X.A) (hb : Binds X.K fd ps [])
    (hx : PassesAt (L2.CX X.prog X.w) X σ (E σ)) (I : Inv X pins σ H s) (r : Vals vs us)
    (h : ∀ x dx, H x = none → H dx = none → dx ≠ x → sp (.ref x :: vs) (upd (upd H dx (.own x)) x (.ins C dx [])) (fun v H2 => v = .non ∧ Q (.ref x) H2) (E σ)) :
    wpAny (model X.prog X.w) X.A (call (.ref C) us) (EP X pins σ Q) X.xe s := by
  have hq := h (s.heap.objs.size + 1) s.heap.objs.size (I.hok.fresh (Nat.le_succ _)) (I.hok.fresh (Nat.le_refl _)) (Nat.ne_of_lt (Nat.lt_succ_self _))
  have I2 := Inv.made (C := C) I
  have r2 : Vals (V.ref (s.heap.objs.size + 1) :: vs) (Value.ref (s.heap.objs.size + 1) :: us) := .cons rfl r
  have hl : (Value.ref (s.heap.objs.size + 1) :: us).length = ps.length := by
    have e := r2.length
    rw [F.len _ _ _ _ hq] at e
    exact e.symm
  have bd := hb (s := _) (us := Value.ref (s.heap.objs.size + 1) :: us) I2.kIn (by rw [List.append_nil]; exact hl)
  rw [List.append_nil] at bd
  refine wpAny_call (make_map (f := f) I.kIn M.makes M.init (beq_iff_eq.mp M.fn) (codeAny_mono (F.run _ X.stack _ _ ⟨Value.ref (s.heap.objs.size + 1) :: us, []⟩ (Value.ref (s.heap.objs.size + 1) :: us) _ _ (E σ) (hr.make C us [])
    (I2.env0.make C us []) bd r2 hq) fun r s' hq' => ?_))
  cases r with
  | error e => exact hx pins _ _ e s' I2 hq'
  | ok fl =>
    cases fl with
    | ret u =>
      obtain ⟨v, H', I3, rv, ev, q3⟩ := I2.after hq'
      subst ev
      exact ⟨rv, ⟨V.ref (s.heap.objs.size + 1), H', I3, rfl, q3⟩⟩
    | next => exact False.elim hq'
    | brk => exact False.elim hq'
    | cont => exact False.elim hq'
theorem pe_mk (c : CalI X.prog X.w X.K X.mg X.base k C ps sp) (hr : Room (k + 1) X.A) (hg : Gl X x) (hm : X.mg x = some (.ref C)) (hx : ∀ σ, PassesAt (L2.CX X.prog X.w) X σ (E σ)) (ha : PA X (e :: es) t) (hdb : (x == ("__debug__" : Str)) = false := by decide)
    (he : starEach (e :: es) X.env = (false, eval e X.env) :: starEach es X.env := by rfl) (hpl : (backTo pos (starEach es X.env)).any (·.1) = false := by rfl) : PE X (.Call (.Name x p) (e :: es) [] pos) (tMakeS C sp E t) := by
  obtain ⟨f, fd, M, b, d⟩ := c.ex
  refine ⟨fun pins s σ H Q I h => ?_⟩
  refine wpAny_Call_Name_kw (ld_glob I hg hm ?_ hdb)
  refine PySem.W.callWith_K (h₀ := X.base) I.ok.mod.kin M.kp (thn (ha.run pos pins s σ H _ I h) fun us s1 ⟨vs, H1, I1, r, q⟩ => ⟨I1.kIn, ?_⟩) he hpl
  exact run_makeS M d hr b (hx σ) I1 r q
end
/-- what the fields of a room, a book want -/
structure RmC (K : PySem.W.Frag) (g : Gd) : Prop where
  cl : Cls K g.Room
  size : NoAttr K g.Room "size"
  told : NoAttr K g.Room "told"
  book : NoAttr K g.Room "book"
structure BkC (K : PySem.W.Frag) (g : Gd) : Prop where
  cl : Cls K g.Book
  size : NoAttr K g.Book "size"
  steps : NoAttr K g.Book "steps"
  made : NoAttr K g.Book "made"
  rows : NoAttr K g.Book "rows"
  kept : NoAttr K g.Book "kept"

/-! ### operators by short names -/
def rAddI : R2 := rI0 fun i j => V.int (i + j)
def rSubI : R2 := rI0 fun i j => V.int (i - j)
def rMulI : R2 := rI CMul fun i j => V.int (i * j)
/-- // by any divisor of up to 9000 bits -/
def CDivW (i j : Int) : Prop := j ≠ 0 ∧ j.natAbs.log2 < 9000
theorem op_fdivW {X : Cx} : OpR X (binaryOp .FloorDiv) (rI CDivW fun i j => .int (i.fdiv j)) := opI fun _ _ _ _ _ _ _ hc q => PyProof.Rows.floordiv_int hc.1 q (.inl (PyProof.noPylong_of_log2 hc.2))
def rDivI : R2 := rI CDivW fun i j => V.int (i.fdiv j)
def rModI : R2 := rI (fun _ j => j ≠ 0) fun i j => V.int (i.fmod j)
def rPowI : R2 := rI CPow fun i j => V.int (i ^ j.toNat)
def rLtI : R2 := rI0 fun i j => V.bl (decide (i < j))
def rLeI : R2 := rI0 fun i j => V.bl (decide (i ≤ j))
def rGtI : R2 := rI0 fun i j => V.bl (decide (j < i))
def rGeI : R2 := rI0 fun i j => V.bl (decide (j ≤ i))
def rAddS : R2 := fun x y H Q => ∃ i j, x = V.str i ∧ y = V.str j ∧ i.length + j.length ≤ sizeLine ∧ Q (.str (i ++ j)) H
def rLenQ (K : PySem.W.Frag) : List V → Hp → VK → Prop := fun xs H Q => ∃ p ys, xs = [.ref p] ∧ (SqL K H p ys ∨ SqT K H p ys) ∧ Q (.int ys.length) H
def rLenDk : List V → Hp → VK → Prop := fun xs H Q => ∃ a kvs, xs = [V.ref a] ∧ H a = some (.dK kvs) ∧ Q (.int kvs.length) H
def rLenSt : List V → Hp → VK → Prop := fun xs H Q => ∃ z, xs = [.str z] ∧ z.length ≤ sizeLine ∧ Q (.int z.length) H
def rListOf (K : PySem.W.Frag) : List V → Hp → VK → Prop := fun xs H Q => ∃ p ys, xs = [.ref p] ∧ (SqL K H p ys ∨ SqT K H p ys) ∧ ∀ l, H l = none → Q (.ref l) (upd H l (.lst ys))
def rTupOf (K : PySem.W.Frag) : List V → Hp → VK → Prop := fun xs H Q => ∃ p ys, xs = [.ref p] ∧ ((SqL K H p ys ∧ ∀ l, H l = none → Q (.ref l) (upd H l (.tup ys))) ∨ (SqT K H p ys ∧ Q (.ref p) H))
def rStrI : List V → Hp → VK → Prop := fun xs H Q => ∃ i, xs = [.int i] ∧ i.natAbs.log2 < 1920 ∧ Q (.str (toString i)) H
def rIntS : List V → Hp → VK → Prop := fun xs H Q => ∃ a n, xs = [.str a] ∧ PySem.intText? a = some n ∧ a.length ≤ 640 ∧ Q (.int n) H
def rMax2 : List V → Hp → VK → Prop := fun xs H Q => ∃ i j, xs = [.int i, .int j] ∧ Q (.int (if j > i then j else i)) H
def rMin2 : List V → Hp → VK → Prop := fun xs H Q => ∃ i j, xs = [.int i, .int j] ∧ Q (.int (if j < i then j else i)) H
def rInsert : V → List V → Hp → VK → Prop := fun x vs H Q => ∃ (l : Addr) (xs : List V) (i : Int) (y : V), x = .ref l ∧ vs = [.int i, y] ∧ H l = some (.lst xs) ∧ xs.length < sizeLine ∧ 0 ≤ i ∧ i < 2 ^ 63 ∧
    Q .non (upd H l (.lst (xs.take i.toNat ++ [y] ++ xs.drop i.toNat)))
def rJoin (K : PySem.W.Frag) : V → List V → Hp → VK → Prop := fun x xs H Q => ∃ a p, ∃ ys : List Str, x = .str a ∧ xs = [.ref p] ∧ (SqL K H p (ys.map V.str) ∨ SqT K H p (ys.map V.str)) ∧
      (ys.map (·.length)).sum + ys.length * a.length ≤ 16777216 ∧ Q (.str (Txt.join a ys)) H
def rSplit : V → List V → Hp → VK → Prop := fun x xs H Q => ∃ a b, x = .str a ∧ xs = [.str b] ∧ (b.length == 0) = false ∧ a.length + 2 ≤ sizeLine ∧ rNewStrs (Txt.split a b) H Q
theorem hu65 {k : Nat} {A : Around} (hr : Room k A) : A.units + 65 < cLine := by have := hr.un; omega

section
variable {X : Cx}
theorem pe_globI {x : Str} {i : Int} {pos : Pos} (hm : ∃ t, X.mg x = some (.int i t)) (hg : Gl X x := by rfl) (hd : (x == ("__debug__" : Str)) = false := by decide) : PE X (.Name x pos) (tC (.int i)) := by
  obtain ⟨t, h⟩ := hm
  exact pe_glob hg h ⟨_, rfl⟩ hd
theorem pe_globS {x : Str} {i : Str} {pos : Pos} (hm : ∃ t, X.mg x = some (.str i t)) (hg : Gl X x := by rfl) (hd : (x == ("__debug__" : Str)) = false := by decide) : PE X (.Name x pos) (tC (.str i)) := by
  obtain ⟨t, h⟩ := hm
  exact pe_glob hg h ⟨_, rfl⟩ hd
end

/-! ### own exceptions -/
structure ExB (K : PySem.W.Frag) (mg : Str → Option Value) (x : Str) (D : Addr) : Prop where
  gC : mg x = some (.ref D)
  ex : PySem.W.excIn K D [.type "ValueError", .type "Exception", .type "BaseException", .type "object"] "ValueError.__new__" = true
  kC : PySem.W.keepIn K (.ref D) = true
  bC : PySem.W.subIn K (.ref D) (.type "BaseException") = some true
  tC : PySem.W.typeIn K (.ref D) = some (.type "type")
/-- isinstance(e, c) in an except suite that holds an exception of class cls -/
def rIsE2 (K : PySem.W.Frag) (cls : Value) (d : Option Addr) (a : Addr) : List V → Hp → VK → Prop := fun xs H Q => ∃ D, cls = .ref D ∧ d = none ∧ ExcC K D ∧ rIsE K D a xs H Q
theorem call_isE2 {X : Cx} {a : Addr} {oe : Obj} {cls : Value} {d : Option Addr} {pn : List (Addr × Obj)} (hz : Zc cls d oe) (hf : ∃ vs, oe.data = .fields vs) : CallR (X.suite a ((a, oe) :: pn)) (.builtin "isinstance") (rIsE2 X.K cls d a) := by
  intro pins s σ H xs us Q I r h
  obtain ⟨D, rfl, rfl, C, h⟩ := h
  exact call_isE C hz hf pins s σ H xs us Q I r h

/-! ### data -/
/-- numbers as values -/
abbrev vI (a : List Int) : List V := a.map V.int
abbrev vN (a : List Nat) : List V := a.map fun (n : Nat) => V.int (n : Int)
/-- a new tuple of numbers is handed back, all else as it was -/
def NewT (H : Hp) (a : List Nat) (Q : VK) : Prop := ∀ (r : Addr) (H' : Hp), Same H H' → H r = none → H' r = some (.tup (vN a)) → Q (.ref r) H'
theorem vN_at {a : List Nat} {i n : Nat} (h : a[i]? = some n) : (vN a)[i]? = some (V.int (n : Int)) := by
  show (a.map _)[i]? = _
  rw [List.getElem?_map, h] <;> rfl
theorem vI_at {a : List Int} {i : Nat} {n : Int} (h : a[i]? = some n) : (vI a)[i]? = some (V.int n) := by
  show (a.map _)[i]? = _
  rw [List.getElem?_map, h] <;> rfl
theorem getD_at {a : List Nat} {i : Nat} (h : i < a.length) : a[i]? = some (a.getD i 0) := by
  rw [List.getD_eq_getElem?_getD, List.getElem?_eq_getElem h] <;> rfl
theorem at_vN {a : List Nat} {z : Int} {i : Nat} (e : z = (i : Int)) (h : i < a.length) : atI (vN a) z = some (V.int ((a.getD i 0 : Nat) : Int)) := at_of e (vN_at (getD_at h))
theorem vN_eq (a : List Nat) : vN a = vI (a.map fun (n : Nat) => (n : Int)) := by
  show a.map _ = (a.map _).map _
  rw [List.map_map] <;> rfl
theorem vN_len (a : List Nat) : (vN a).length = a.length := List.length_map ..
theorem vI_len (a : List Int) : (vI a).length = a.length := List.length_map ..
theorem _root_.L2.Same.up {H H' : Hp} {p : Addr} {o : HO} (s : Same H H') (h : H p = none) : Same H (upd H' p o) := fun b u e => by
  rw [upd_ne (ne_of_none e h)]
  exact s b u e
theorem _root_.L2.Same.new {H H' : Hp} {p : Addr} {o : HO} (s : Same H H') (h : H' p = none) : Same H (upd H' p o) := s.up (s.free h)
theorem _root_.L2.Same.tup {K : PySem.W.Frag} {H H' : Hp} {a : Addr} {xs : List V} (e : Same H H') (h : SqT K H a xs) : SqT K H' a xs := by
  rcases h with (h | ⟨o, h⟩) | h
  · exact .inl (.inl (e _ _ h))
  · exact .inl (.inr ⟨o, e _ _ h⟩)
  · exact .inr h
theorem sqT {K : PySem.W.Frag} {H : Hp} {a : Addr} {xs : List V} (h : H a = some (.tup xs)) : SqT K H a xs := .inl (.inl h)
theorem sqL {K : PySem.W.Frag} {H : Hp} {a : Addr} {xs : List V} (h : H a = some (.lst xs)) : SqL K H a xs := .inl (.inl h)
theorem zl {n : Nat} (h : n ≤ 100000) : n ≤ sizeLine := Nat.le_trans h (by decide)
theorem zlt {n : Nat} (h : n < 100000) : n < sizeLine := Nat.lt_of_lt_of_le h (by decide)
theorem if_t {c : Bool} {A B : Prop} (hc : c = true) (h : A) : if c = true then A else B := by rw [if_pos hc]; exact h
theorem if_f {c : Bool} {A B : Prop} (hc : c = false) (h : B) : if c = true then A else B := by rw [hc, if_neg Bool.false_ne_true]; exact h
theorem if_d {c : Prop} [Decidable c] {A B : Prop} (h1 : c → A) (h2 : ¬ c → B) : if decide c = true then A else B := by
  by_cases h : c
  · exact if_t (decide_eq_true h) (h1 h)
  · exact if_f (decide_eq_false h) (h2 h)
theorem if_b {c : Bool} {A B : Prop} (h1 : c = true → A) (h2 : c = false → B) : if c = true then A else B := by
  cases c with
  | true => exact if_t rfl (h1 rfl)
  | false => exact if_f rfl (h2 rfl)
theorem fmod_pos {a b : Int} (h : 0 < b) : a.fmod b = a % b := Int.fmod_eq_emod_of_nonneg a (Int.le_of_lt h)
theorem fdiv_pos {a b : Int} (h : 0 < b) : a.fdiv b = a / b := Int.fdiv_eq_ediv_of_nonneg a (Int.le_of_lt h)
end Shf

/-! numbers, lists, permutations; steps of the reading by names -/
namespace Shf
open PySem L2
/-! ### steps: one a combinator -/
section
variable {K : PySem.W.Frag} {σ : L2.St} {H : Hp} {Q : VK} {QA : List V → Hp → Prop} {QB : Bool → Hp → Prop} {D : Ends} {te tf : TE} {ta : TA} {tt tu : TT} {t u : TS} {g : TG}
theorem w_seq (h : t { D with nx := u D } σ H) : tSeq t u D σ H := h
theorem w_asg {i : Nat} (h : te σ H fun x H1 => D.nx (σ.set i (some x)) H1) : tAsg te (gName i) D σ H := h
theorem w_asgS {to ti : TE} {r : TSet} (h : te σ H fun x H1 => to σ H1 fun o H1 => ti σ H1 fun i H2 => r o i x H2 fun H3 => D.nx σ H3) : tAsg te (gSub to ti r) D σ H := h
theorem w_drop (h : te σ H fun _ H1 => D.nx σ H1) : tDrop te D σ H := h
theorem w_ret (h : te σ H D.rt) : tRet te D σ H := h
theorem w_next (h : D.nx σ H) : tNext D σ H := h
theorem w_if (h : tt σ H fun b H1 => if b = true then t D σ H1 else u D σ H1) : tIfS tt t u D σ H := h
theorem w_var {i : Nat} {v : V} (e : σ[i]? = some (some v)) (q : Q v H) : tVar i σ H Q := ⟨v, e, q⟩
theorem w_c {v : V} (q : Q v H) : tC v σ H Q := q
theorem w_op {r : R2} (h : te σ H fun x H1 => tf σ H1 fun y H2 => r x y H2 Q) : tOp r te tf σ H Q := h
theorem w_un {r : V → Hp → VK → Prop} (h : te σ H fun x H1 => r x H1 Q) : tUn r te σ H Q := h
theorem w_nil (h : QA [] H) : tNil σ H QA := h
theorem w_cons (h : te σ H fun x H1 => ta σ H1 fun xs H2 => QA (x :: xs) H2) : tCons te ta σ H QA := h
theorem w_cb {r : List V → Hp → VK → Prop} (h : ta σ H fun vs H1 => r vs H1 Q) : tCB r ta σ H Q := h
theorem w_call {sp : Sp} {E : L2.St → XK} (h : ta σ H fun vs H1 => sp vs H1 Q (E σ)) : tCallS sp E ta σ H Q := h
theorem w_test (h : te σ H fun x H' => ∃ k, x = .bl k ∧ QB k H') : tTest te σ H QB := h
theorem w_b (h : te σ H fun x H' => ∃ k, x = .bl k ∧ QB k H') : tB te σ H QB := h
theorem w_bex {b : Bool} {P : Bool → Prop} (h : P b) : ∃ k, V.bl b = .bl k ∧ P k := ⟨b, rfl, h⟩
theorem w_and (h : tt σ H fun c H1 => if c = true then tu σ H1 QB else QB false H1) : tAnd tt tu σ H QB := h
theorem w_or (h : tt σ H fun c H1 => if c = true then QB true H1 else tu σ H1 QB) : tOr tt tu σ H QB := h
theorem w_orP {b c : Bool} (ht : ∀ R : Bool → Hp → Prop, R b H → tt σ H R) (hu : ∀ R : Bool → Hp → Prop, R c H → tu σ H R) (q : QB (b || c) H) : tOr tt tu σ H QB := by
  refine ht _ ?_
  cases b with
  | true => exact q
  | false => exact hu _ q
theorem w_andP {b c : Bool} (ht : ∀ R : Bool → Hp → Prop, R b H → tt σ H R) (hu : ∀ R : Bool → Hp → Prop, R c H → tu σ H R) (q : QB (b && c) H) : tAnd tt tu σ H QB := by
  refine ht _ ?_
  cases b with
  | true => exact hu _ q
  | false => exact q
theorem w_not (h : tt σ H fun c H1 => QB (!c) H1) : tNot tt σ H QB := h
theorem w_andV (h : te σ H fun x H1 => ∃ c, x = .bl c ∧ if c = true then tf σ H1 Q else Q (.bl false) H1) : tAndV te tf σ H Q := h
theorem w_orV (h : te σ H fun x H1 => ∃ c, x = .bl c ∧ if c = true then Q (.bl true) H1 else tf σ H1 Q) : tOrV te tf σ H Q := h
theorem w_notV (h : te σ H fun x H1 => ∃ c, x = .bl c ∧ Q (.bl (!c)) H1) : tNotV te σ H Q := h
theorem w_ife (h : tt σ H fun c H1 => if c = true then te σ H1 Q else tf σ H1 Q) : tIf tt te tf σ H Q := h
theorem w_add {i j : Int} (q : Q (.int (i + j)) H) : rAddI (.int i) (.int j) H Q := ⟨i, j, rfl, rfl, q⟩
theorem w_sub {i j : Int} (q : Q (.int (i - j)) H) : rSubI (.int i) (.int j) H Q := ⟨i, j, rfl, rfl, q⟩
theorem w_neg {i : Int} (q : Q (.int (-i)) H) : rU (fun i => V.int (-i)) (.int i) H Q := ⟨i, rfl, q⟩
theorem w_lt {i j : Int} (q : Q (.bl (decide (i < j))) H) : rLtI (.int i) (.int j) H Q := ⟨i, j, rfl, rfl, q⟩
theorem w_le {i j : Int} (q : Q (.bl (decide (i ≤ j))) H) : rLeI (.int i) (.int j) H Q := ⟨i, j, rfl, rfl, q⟩
theorem w_gt {i j : Int} (q : Q (.bl (decide (j < i))) H) : rGtI (.int i) (.int j) H Q := ⟨i, j, rfl, rfl, q⟩
theorem w_ge {i j : Int} (q : Q (.bl (decide (j ≤ i))) H) : rGeI (.int i) (.int j) H Q := ⟨i, j, rfl, rfl, q⟩
theorem w_tup (h : ta σ H fun xs H1 => xs.length ≤ sizeLine ∧ ∀ p, H1 p = none → Q (.ref p) (upd H1 p (.tup xs))) : tTup ta σ H Q := h
theorem w_lst (h : ta σ H fun xs H1 => xs.length ≤ sizeLine ∧ ∀ p, H1 p = none → Q (.ref p) (upd H1 p (.lst xs))) : tLst ta σ H Q := h
theorem w_lrg {tr : L2.St → Hp → (Int → Int → Hp → Prop) → Prop} (h : tr σ H fun a b H1 => RgOk a b ∧ ∀ q, H1 q = none → Q (.ref q) (upd H1 q (.lst (rgV a b)))) : tLstRg tr σ H Q := h
theorem w_trg {tr : L2.St → Hp → (Int → Int → Hp → Prop) → Prop} (h : tr σ H fun a b H1 => RgOk a b ∧ ∀ q, H1 q = none → Q (.ref q) (upd H1 q (.tup (rgV a b)))) : tTupRg tr σ H Q := h
theorem w_rg1 {QR : Int → Int → Hp → Prop} (h : te σ H fun x H1 => ∃ n, x = .int n ∧ QR 0 n H1) : tRg1 te σ H QR := h
theorem w_iex {i : Int} {P : Int → Prop} (h : P i) : ∃ n, V.int i = .int n ∧ P n := ⟨i, rfl, h⟩
theorem w_yes (q : QB true H) : tYes σ H QB := q
theorem w_bm {T : String} {r : V → List V → Hp → VK → Prop} (h : te σ H fun x H1 => tyV K T x H1 ∧ ta σ H1 fun xs H2 => r x xs H2 Q) : tBM K T r te ta σ H Q := h
theorem w_bm0 {T : String} {r : V → List V → Hp → VK → Prop} (h : te σ H fun x H1 => tyV K T x H1 ∧ r x [] H1 Q) : tBM0 K T r te σ H Q := h
def rFld (K : PySem.W.Frag) (f : Str) (x : V) (H : Hp) (Q : VK) : Prop := ∃ a C dx fs v, x = .ref a ∧ H a = some (.ins C dx fs) ∧ Cls K C ∧ NoAttr K C f ∧ fs.lookup f = some v ∧ Q v H
theorem w_fld {f : Str} (h : te σ H fun x H1 => rFld K f x H1 Q) : tFld K te f σ H Q := h
theorem w_sfld {f : Str} (h : tf σ H fun y H1 => te σ H1 fun x H2 => ∃ a C dx fs, x = .ref a ∧ H2 a = some (.ins C dx fs) ∧ Cls K C ∧ NoAttr K C f ∧ fs.length < 1000 ∧ D.nx σ (upd H2 a (.ins C dx (putF f y fs)))) : sFld K te tf f D σ H := h
def rDGet (x y : V) (H : Hp) (Q : VK) : Prop := ∃ a v, x = .ref a ∧ DGet H a y (some v) ∧ Q v H
theorem w_dget (h : te σ H fun x H1 => tf σ H1 fun y H2 => rDGet x y H2 Q) : tDGet te tf σ H Q := h
theorem w_dget1 (h : te σ H fun x H1 => ∃ a, x = .ref a ∧ IsD H1 a ∧ tf σ H1 fun y H2 => ∃ o, DGet H2 a y o ∧ Q (o.getD .non) H2) : tDGet1 te tf σ H Q := h
theorem w_meth {C : Addr} {m : Str} {sp : Sp} {E : L2.St → XK} (h : te σ H fun x H1 => ∃ a dx fs, x = .ref a ∧ H1 a = some (.ins C dx fs) ∧ fs.lookup m = none ∧ ta σ H1 fun vs H2 => sp (x :: vs) H2 Q (E σ)) : tMethS C m sp E te ta σ H Q := h
def rMake (C : Addr) (sp : Sp) (E : XK) (vs : List V) (H1 : Hp) (Q : VK) : Prop := ∀ x dx, H1 x = none → H1 dx = none → dx ≠ x → sp (.ref x :: vs) (upd (upd H1 dx (.own x)) x (.ins C dx [])) (fun v H2 => v = .non ∧ Q (.ref x) H2) E
theorem w_make {C : Addr} {sp : Sp} {E : L2.St → XK} (h : ta σ H fun vs H1 => rMake C sp (E σ) vs H1 Q) : tMakeS C sp E ta σ H Q := h
theorem w_raise {W : WX} {C : Addr} (h : W (.ref C) none σ H) : tRaiseW W C D σ H := h
end
/-- ways that meet: what holds where they meet -/
theorem w_join {t : TS} {D : Ends} {σ : L2.St} {H : Hp} (M : L2.St → Hp → Prop) (key : ∀ σ' H', M σ' H' → D.nx σ' H') (h : (∀ σ' H', M σ' H' → D.nx σ' H') → t D σ H) : t D σ H := h key
/-- for .. in range(n), behind n's reading -/
theorem w_for1 {σ : L2.St} {H : Hp} {D : Ends} {i n : Nat} {t : TS} (hn : n ≤ 1000000) (Pv : Nat → L2.St → Hp → Prop) (h0 : Pv 0 σ H)
    (hs : ∀ k σ H, k < n → Pv k σ H → t { D with nx := Pv (k + 1), ct := Pv (k + 1), bk := D.nx } (σ.set i (some (.int (k : Int)))) H) (hd : ∀ σ H, Pv n σ H → D.nx σ H) :
    ∃ j : Int, [V.int (n : Int)] = [.int j] ∧ -(2 ^ 62) ≤ j ∧ j < 2 ^ 62 ∧ ∃ W : Nat → Nat → L2.St → Hp → Prop, (∃ m, W 0 m σ H) ∧ ∀ i' m σ H, W i' m σ H →
      ((Itr 0 j.toNat).stop i' H ∧ D.nx σ H) ∨ ((Itr 0 j.toNat).go i' H ∧ ∃ N : L2.St → Hp → Prop, (∀ σ' H', N σ' H' → ∃ m', m' < m ∧ W (i' + 1) m' σ' H') ∧ ∀ x H', (Itr 0 j.toNat).yld i' H x H' → gName i x σ H' fun σ2 H2 => t { D with nx := N, ct := N, bk := D.nx } σ2 H2) :=
  ⟨_, rfl, by omega, by omega, for_range (n := n) Pv h0 (fun k σ H hk p => by
    show t _ (σ.set i (some (V.int (0 + (k : Int))))) H
    rw [Int.zero_add]
    exact hs k σ H hk p) hd⟩
theorem w_for {σ : L2.St} {H : Hp} {D : Ends} {wi : TI} {g : TG} {tb : TS} (h : wi σ H fun J H1 => ∃ W : Nat → Nat → L2.St → Hp → Prop, (∃ m, W 0 m σ H1) ∧ ∀ i m σ H, W i m σ H →
  (J.stop i H ∧ D.nx σ H) ∨ (J.go i H ∧ ∃ N : L2.St → Hp → Prop, (∀ σ' H', N σ' H' → ∃ m', m' < m ∧ W (i + 1) m' σ' H') ∧ ∀ x H', J.yld i H x H' → g x σ H' fun σ2 H2 => tb { D with nx := N, ct := N, bk := D.nx } σ2 H2)) : tFor wi g tb D σ H := h
theorem w_irng1 {σ : L2.St} {H : Hp} {ta : TA} {R : It → Hp → Prop} (h : ta σ H fun vs H1 => ∃ j : Int, vs = [.int j] ∧ -(2 ^ 62) ≤ j ∧ j < 2 ^ 62 ∧ R (Itr 0 j.toNat) H1) : iRng1 ta σ H R := h
theorem w_irng2 {σ : L2.St} {H : Hp} {ta : TA} {R : It → Hp → Prop} (h : ta σ H fun vs H1 => ∃ i j : Int, vs = [.int i, .int j] ∧ (-(2 ^ 62) ≤ i ∧ i < 2 ^ 62 ∧ -(2 ^ 62) ≤ j ∧ j < 2 ^ 62) ∧ R (Itr i (j - i).toNat) H1) : iRng2 ta σ H R := h
theorem w_ilist {K : PySem.W.Frag} {σ : L2.St} {H : Hp} {te : TE} {R : It → Hp → Prop} (h : te σ H fun x H1 => ∃ a, x = .ref a ∧ (∃ xs, SqL K H1 a xs) ∧ R (Itl K a) H1) : iList K te σ H R := h
theorem w_itup {K : PySem.W.Frag} {σ : L2.St} {H : Hp} {te : TE} {R : It → Hp → Prop} (h : te σ H fun x H1 => ∃ a, x = .ref a ∧ (∃ xs, SqT K H1 a xs) ∧ R (Itt K a) H1) : iTup K te σ H R := h
/-! ### steps -/
section
variable {K : PySem.W.Frag} {H : Hp} {Q : VK} {p : Addr}
theorem ix_LN {a : List Nat} {z : Int} {i : Nat} (h : SqL K H p (vN a)) (hi : i < a.length) (e : z = (i : Int)) (q : Q (.int ((a.getD i 0 : Nat) : Int)) H) : rIxL K (.ref p) (.int z) H Q := ⟨p, _, _, _, rfl, rfl, h, at_vN e hi, q⟩
theorem ix_TN {a : List Nat} {z : Int} {i : Nat} (h : SqT K H p (vN a)) (hi : i < a.length) (e : z = (i : Int)) (q : Q (.int ((a.getD i 0 : Nat) : Int)) H) : rIxT K (.ref p) (.int z) H Q := ⟨p, _, _, _, rfl, rfl, h, at_vN e hi, q⟩
theorem ix_L {xs : List V} {z : Int} {i : Nat} {v : V} (h : SqL K H p xs) (hi : xs[i]? = some v) (e : z = (i : Int)) (q : Q v H) : rIxL K (.ref p) (.int z) H Q := ⟨p, _, _, _, rfl, rfl, h, at_of e hi, q⟩
theorem ix_T {xs : List V} {z : Int} {i : Nat} {v : V} (h : SqT K H p xs) (hi : xs[i]? = some v) (e : z = (i : Int)) (q : Q v H) : rIxT K (.ref p) (.int z) H Q := ⟨p, _, _, _, rfl, rfl, h, at_of e hi, q⟩
theorem len_L {xs : List V} (h : SqL K H p xs) (q : Q (.int (xs.length : Nat)) H) : rLenQ K [.ref p] H Q := ⟨p, xs, rfl, .inl h, q⟩
theorem len_T {xs : List V} (h : SqT K H p xs) (q : Q (.int (xs.length : Nat)) H) : rLenQ K [.ref p] H Q := ⟨p, xs, rfl, .inr h, q⟩
theorem len_LN {a : List Nat} (h : SqL K H p (vN a)) (q : Q (.int (a.length : Nat)) H) : rLenQ K [.ref p] H Q := ⟨p, _, rfl, .inl h, by rw [vN_len]; exact q⟩
theorem len_TN {a : List Nat} (h : SqT K H p (vN a)) (q : Q (.int (a.length : Nat)) H) : rLenQ K [.ref p] H Q := ⟨p, _, rfl, .inr h, by rw [vN_len]; exact q⟩
theorem len_TI {a : List Int} (h : SqT K H p (vI a)) (q : Q (.int (a.length : Nat)) H) : rLenQ K [.ref p] H Q := ⟨p, _, rfl, .inr h, by rw [vI_len]; exact q⟩
theorem len_LI {a : List Int} (h : SqL K H p (vI a)) (q : Q (.int (a.length : Nat)) H) : rLenQ K [.ref p] H Q := ⟨p, _, rfl, .inl h, by rw [vI_len]; exact q⟩
theorem eq_I {i j : Int} (q : Q (.bl (decide (i = j))) H) : rEq (.int i) (.int j) H Q := ⟨rfl, by
  have e : decide (V.int i = V.int j) = decide (i = j) := by
    by_cases h : i = j
    · rw [decide_eq_true h, decide_eq_true (by rw [h])]
    · rw [decide_eq_false h, decide_eq_false (fun z => h (V.int.inj z))]
  rw [e]; exact q⟩
theorem ne_I {i j : Int} (q : Q (.bl (!decide (i = j))) H) : rNe (.int i) (.int j) H Q := ⟨rfl, by
  have e : decide (V.int i = V.int j) = decide (i = j) := by
    by_cases h : i = j
    · rw [decide_eq_true h, decide_eq_true (by rw [h])]
    · rw [decide_eq_false h, decide_eq_false (fun z => h (V.int.inj z))]
  rw [e]; exact q⟩
theorem eq_B {i j : Bool} (q : Q (.bl (i == j)) H) : rEq (.bl i) (.bl j) H Q := ⟨rfl, by
  have e : decide (V.bl i = V.bl j) = (i == j) := by cases i <;> cases j <;> decide
  rw [e]; exact q⟩
theorem ne_B {i j : Bool} (q : Q (.bl (i != j)) H) : rNe (.bl i) (.bl j) H Q := ⟨rfl, by
  have e : (!decide (V.bl i = V.bl j)) = (i != j) := by cases i <;> cases j <;> decide
  rw [e]; exact q⟩
/-- % and // by a positive number below 2 ^ 30 -/
theorem mod_I {i j : Int} (h : 0 < j) (q : Q (.int (i % j)) H) : rModI (.int i) (.int j) H Q := ⟨i, j, rfl, rfl, by omega, by show Q (.int (i.fmod j)) H; rw [fmod_pos h]; exact q⟩
theorem div_I {i j : Int} (h : 0 < j) (h2 : j < 18446744073709551616) (q : Q (.int (i / j)) H) : rDivI (.int i) (.int j) H Q := ⟨i, j, rfl, rfl, ⟨by omega, by
  have h3 : j.natAbs < 2 ^ 64 := by show j.natAbs < 18446744073709551616; omega
  have := (Nat.log2_lt (n := j.natAbs) (k := 64) (by omega)).mpr h3
  omega⟩, by show Q (.int (i.fdiv j)) H; rw [fdiv_pos h]; exact q⟩
theorem mul_I {i j : Int} (h : (-(2 ^ 64) < i ∧ i < 2 ^ 64) ∨ (-(2 ^ 64) < j ∧ j < 2 ^ 64)) (q : Q (.int (i * j)) H) : rMulI (.int i) (.int j) H Q := ⟨i, j, rfl, rfl, h, q⟩
theorem seqIx {i n : Nat} {z : Int} (e : z = (i : Int)) (h : i < n) : seqIndex? z n = some i := by
  subst e
  unfold seqIndex?
  first
    | (rw [if_neg (by omega), if_pos (by omega)]; rfl)
    | (simp; omega)
theorem eraseIdx_map' {α β : Type} (f : α → β) : ∀ (l : List α) (i : Nat), (l.map f).eraseIdx i = (l.eraseIdx i).map f
  | [], _ => rfl
  | _ :: _, 0 => rfl
  | a :: l, i + 1 => by
    show f a :: (l.map f).eraseIdx i = f a :: (l.eraseIdx i).map f
    rw [eraseIdx_map' f l i]
theorem pop_N {a : List Nat} {z : Int} {i : Nat} (h : H p = some (.lst (vN a))) (hi : i < a.length) (hz : a.length ≤ 100000) (e : z = (i : Int)) (q : Q (.int ((a.getD i 0 : Nat) : Int)) (upd H p (.lst (vN (a.eraseIdx i))))) : rPopAt (.ref p) [.int z] H Q := by
  refine ⟨p, _, z, i, _, rfl, rfl, h, by omega, by omega, seqIx e (by rw [vN_len]; exact hi), vN_at (getD_at hi), ?_⟩
  have e2 : (vN a).eraseIdx i = vN (a.eraseIdx i) := by
    show (a.map _).eraseIdx i = (a.eraseIdx i).map _
    exact eraseIdx_map' _ _ _
  rw [e2]
  exact q
theorem app_N {a : List Nat} {n : Nat} (h : H p = some (.lst (vN a))) (hz : a.length < 100000) (q : Q .non (upd H p (.lst (vN (a ++ [n]))))) : rAppend (.ref p) [.int (n : Int)] H Q :=
  ⟨p, _, _, rfl, rfl, h, by rw [vN_len]; exact zlt hz, by
    have e : vN a ++ [V.int (n : Int)] = vN (a ++ [n]) := by
      show a.map _ ++ _ = (a ++ [n]).map _
      rw [List.map_append] <;> rfl
    rw [e]; exact q⟩
theorem app_V {xs : List V} {v : V} (h : H p = some (.lst xs)) (hz : xs.length < 100000) (q : Q .non (upd H p (.lst (xs ++ [v])))) : rAppend (.ref p) [v] H Q := ⟨p, _, _, rfl, rfl, h, zlt hz, q⟩
theorem isL {xs : List V} (h : SqL K H p xs) : tyV K "list" (.ref p) H := .inl ⟨rfl, _, h⟩
theorem tup_L {xs : List V} (h : SqL K H p xs) (q : ∀ l, H l = none → Q (.ref l) (upd H l (.tup xs))) : rTupOf K [.ref p] H Q := ⟨p, xs, rfl, .inl ⟨h, q⟩⟩
end
theorem rgV_N (n : Nat) : rgV 0 (n : Int) = vN (List.range n) := by
  show (List.range ((n : Int) - 0).toNat).map _ = (List.range n).map _
  have e : ((n : Int) - 0).toNat = n := by omega
  rw [e]
  refine List.map_congr_left fun i _ => ?_
  show V.int (0 + (i : Nat)) = V.int (i : Int)
  rw [Int.zero_add]
theorem rgOk_N {n : Nat} (h : n ≤ 100000) : RgOk 0 (n : Int) := .of_le (by omega) (by omega) (by omega) (by omega)

/-! ### permutations of 0 .. n - 1 -/
/-- the numbers 0 .. n - 1 in some order -/
def IsP (n : Nat) (a : List Nat) : Prop := a.Perm (List.range n)
theorem IsP.len {n : Nat} {a : List Nat} (h : IsP n a) : a.length = n := by rw [List.Perm.length_eq h, List.length_range]
theorem IsP.lt {n : Nat} {a : List Nat} (h : IsP n a) {x : Nat} (m : x ∈ a) : x < n := List.mem_range.mp ((List.Perm.mem_iff h).mp m)
theorem IsP.mem {n : Nat} {a : List Nat} (h : IsP n a) {x : Nat} (m : x < n) : x ∈ a := (List.Perm.mem_iff h).mpr (List.mem_range.mpr m)
theorem IsP.nd {n : Nat} {a : List Nat} (h : IsP n a) : a.Nodup := (List.Perm.nodup_iff h).mpr List.nodup_range
theorem IsP.getD_lt {n : Nat} {a : List Nat} (h : IsP n a) {i : Nat} (m : i < n) : a.getD i 0 < n := by
  have e := getD_at (a := a) (i := i) (by rw [h.len]; exact m)
  exact h.lt (List.mem_of_getElem? e)
theorem nd_sub_len {α : Type} [DecidableEq α] : ∀ {a m : List α}, a.Nodup → (∀ x ∈ a, x ∈ m) → a.length ≤ m.length
  | [], _, _, _ => Nat.zero_le _
  | x :: r, m, nd, hs => by
    obtain ⟨hx, nr⟩ := List.nodup_cons.mp nd
    have hm : x ∈ m := hs x List.mem_cons_self
    have ih : r.length ≤ (m.erase x).length := nd_sub_len nr fun y hy => by
      have hne : y ≠ x := fun e => hx (by rw [← e]; exact hy)
      exact (List.mem_erase_of_ne hne).mpr (hs y (List.mem_cons_of_mem _ hy))
    rw [List.length_erase_of_mem hm] at ih
    have : 0 < m.length := List.length_pos_of_mem hm
    show r.length + 1 ≤ _
    omega
/-- a list without twice the same, as long as it is told to be within m's: all of m -/
theorem perm_of_nd_sub : ∀ {a m : List Nat}, a.Nodup → (∀ x ∈ a, x ∈ m) → m.length ≤ a.length → a.Perm m
  | [], m, _, _, hl => by
    have : m = [] := List.length_eq_zero_iff.mp (Nat.le_zero.mp hl)
    rw [this]
  | x :: r, m, nd, hs, hl => by
    obtain ⟨hx, nr⟩ := List.nodup_cons.mp nd
    have hm : x ∈ m := hs x List.mem_cons_self
    have p1 : m.Perm (x :: m.erase x) := List.perm_cons_erase hm
    have ih : r.Perm (m.erase x) := by
      refine perm_of_nd_sub nr (fun y hy => ?_) ?_
      · have hne : y ≠ x := fun e => hx (e ▸ hy)
        exact (List.mem_erase_of_ne hne).mpr (hs y (List.mem_cons_of_mem _ hy))
      · rw [List.length_erase_of_mem hm]
        have : (x :: r).length = r.length + 1 := rfl
        omega
    exact (List.Perm.cons x ih).trans p1.symm
theorem isP_of_nd {n : Nat} {a : List Nat} (nd : a.Nodup) (hl : a.length = n) (hlt : ∀ x ∈ a, x < n) : IsP n a :=
  perm_of_nd_sub nd (fun x hx => List.mem_range.mpr (hlt x hx)) (by rw [List.length_range, hl]; exact Nat.le_refl n)
theorem isP_of_all {n : Nat} {a : List Nat} (hl : a.length = n) (h : ∀ k, k < n → k ∈ a) : IsP n a :=
  (perm_of_nd_sub List.nodup_range (fun x hx => h x (List.mem_range.mp hx)) (by rw [List.length_range, hl]; exact Nat.le_refl n)).symm

/-! ### joined and turned -/
def jn (a b : List Nat) : List Nat := a.map fun k => b.getD k 0
theorem jn_len (a b : List Nat) : (jn a b).length = a.length := List.length_map ..
theorem jn_get {a b : List Nat} {i : Nat} (h : i < a.length) : (jn a b).getD i 0 = b.getD (a.getD i 0) 0 := by
  unfold jn
  rw [List.getD_eq_getElem?_getD, List.getElem?_map, getD_at h] <;> rfl
theorem ext_getD {a b : List Nat} (hl : a.length = b.length) (h : ∀ i, i < a.length → a.getD i 0 = b.getD i 0) : a = b := by
  refine List.ext_getElem? fun i => ?_
  by_cases hi : i < a.length
  · rw [getD_at hi, getD_at (hl ▸ hi), h i hi]
  · rw [List.getElem?_eq_none (by omega), List.getElem?_eq_none (by omega)]
theorem nd_getD {a : List Nat} (nd : a.Nodup) {i j : Nat} (hi : i < a.length) (hj : j < a.length) (e : a.getD i 0 = a.getD j 0) : i = j := nd_ix nd (getD_at hi) (by rw [getD_at hj, e])
theorem nd_of_getD {a : List Nat} (h : ∀ i j, i < a.length → j < a.length → a.getD i 0 = a.getD j 0 → i = j) : a.Nodup := by
  refine List.pairwise_iff_getElem.mpr fun i j hi hj hij e => ?_
  have := h i j hi hj (by rw [List.getD_eq_getElem?_getD, List.getD_eq_getElem?_getD, List.getElem?_eq_getElem hi, List.getElem?_eq_getElem hj, e])
  omega
theorem isP_jn {n : Nat} {a b : List Nat} (ha : IsP n a) (hb : IsP n b) : IsP n (jn a b) := by
  refine isP_of_nd (nd_of_getD fun i j hi hj e => ?_) (by rw [jn_len, ha.len]) fun x hx => ?_
  · rw [jn_len] at hi hj
    rw [jn_get hi, jn_get hj] at e
    have hi' : a.getD i 0 < b.length := by rw [hb.len]; exact ha.getD_lt (by rw [← ha.len]; exact hi)
    have hj' : a.getD j 0 < b.length := by rw [hb.len]; exact ha.getD_lt (by rw [← ha.len]; exact hj)
    exact nd_getD ha.nd hi hj (nd_getD hb.nd hi' hj' e)
  · obtain ⟨k, hk, rfl⟩ := List.mem_map.mp hx
    exact hb.getD_lt (ha.lt hk)
theorem isP_id (n : Nat) : IsP n (List.range n) := List.Perm.refl _
/-- the way back as the program makes it -/
def trnSt (a : List Nat) (k : Nat) : List Nat := (List.range k).foldl (fun row i => row.set (a.getD i 0) i) (List.replicate a.length 0)
def trn (a : List Nat) : List Nat := trnSt a a.length
theorem trnSt_succ (a : List Nat) (k : Nat) : trnSt a (k + 1) = (trnSt a k).set (a.getD k 0) k := by
  unfold trnSt
  rw [List.range_succ, List.foldl_append] <;> rfl
theorem trnSt_len (a : List Nat) : ∀ k, (trnSt a k).length = a.length
  | 0 => List.length_replicate
  | k + 1 => by rw [trnSt_succ, List.length_set, trnSt_len a k]
theorem trnSt_get {n : Nat} {a : List Nat} (h : IsP n a) : ∀ k, k ≤ n → ∀ i, i < k → (trnSt a k).getD (a.getD i 0) 0 = i
  | 0, _, i, hi => absurd hi (Nat.not_lt_zero i)
  | k + 1, hk, i, hi => by
    have hka : k < a.length := by rw [h.len]; omega
    rw [trnSt_succ, List.getD_eq_getElem?_getD]
    by_cases e : i = k
    · subst e
      rw [List.getElem?_set_self (by rw [trnSt_len, h.len]; exact h.getD_lt (by omega))] <;> rfl
    · have hne : a.getD k 0 ≠ a.getD i 0 := fun z => e (nd_getD h.nd (by omega) hka z.symm)
      rw [List.getElem?_set_ne hne, ← List.getD_eq_getElem?_getD]
      exact trnSt_get h k (by omega) i (by omega)
theorem trn_len (a : List Nat) : (trn a).length = a.length := trnSt_len a _
theorem trn_get {n : Nat} {a : List Nat} (h : IsP n a) {i : Nat} (hi : i < n) : (trn a).getD (a.getD i 0) 0 = i := trnSt_get h a.length (by rw [h.len]; exact Nat.le_refl n) i (by rw [h.len]; exact hi)
theorem isP_get_of {n : Nat} {a : List Nat} (h : IsP n a) {x : Nat} (hx : x < n) : ∃ i, i < n ∧ a.getD i 0 = x := by
  obtain ⟨i, hi, e⟩ := List.getElem_of_mem (h.mem hx)
  refine ⟨i, by rw [← h.len]; exact hi, ?_⟩
  rw [List.getD_eq_getElem?_getD, List.getElem?_eq_getElem hi, e] <;> rfl
theorem isP_trn {n : Nat} {a : List Nat} (h : IsP n a) : IsP n (trn a) := by
  refine isP_of_all (by rw [trn_len, h.len]) fun k hk => ?_
  have e := trn_get h hk
  have hl : a.getD k 0 < (trn a).length := by rw [trn_len, h.len]; exact h.getD_lt hk
  have m := List.mem_of_getElem? (getD_at hl)
  rw [e] at m
  exact m
theorem trn_get' {n : Nat} {a : List Nat} (h : IsP n a) {x : Nat} (hx : x < n) : a.getD ((trn a).getD x 0) 0 = x := by
  obtain ⟨i, hi, e⟩ := isP_get_of h hx
  rw [← e, trn_get h hi]
theorem jn_trn {n : Nat} {a : List Nat} (h : IsP n a) : jn a (trn a) = List.range n := by
  refine ext_getD (by rw [jn_len, h.len, List.length_range]) fun i hi => ?_
  rw [jn_len] at hi
  have hi' : i < n := by rw [← h.len]; exact hi
  rw [jn_get hi, trn_get h hi', List.getD_eq_getElem?_getD, List.getElem?_range hi'] <;> rfl
theorem trn_jn {n : Nat} {a : List Nat} (h : IsP n a) : jn (trn a) a = List.range n := by
  refine ext_getD (by rw [jn_len, trn_len, h.len, List.length_range]) fun i hi => ?_
  rw [jn_len, trn_len] at hi
  have hi' : i < n := by rw [← h.len]; exact hi
  rw [jn_get (by rw [trn_len]; exact hi), trn_get' h hi', List.getD_eq_getElem?_getD, List.getElem?_range hi'] <;> rfl
theorem range_getD {n i : Nat} (h : i < n) : (List.range n).getD i 0 = i := by rw [List.getD_eq_getElem?_getD, List.getElem?_range h] <;> rfl
theorem jn_id {n : Nat} {a : List Nat} (h : ∀ x ∈ a, x < n) : jn a (List.range n) = a := by
  unfold jn
  conv => rhs; rw [← List.map_id a]
  exact List.map_congr_left fun x hx => range_getD (h x hx)
theorem id_jn (a : List Nat) : jn (List.range a.length) a = a := by
  refine ext_getD (by rw [jn_len, List.length_range]) fun i hi => ?_
  rw [jn_len, List.length_range] at hi
  rw [jn_get (by rw [List.length_range]; exact hi), range_getD hi]
theorem jn_assoc {a b c : List Nat} (h : ∀ x ∈ a, x < b.length) : jn (jn a b) c = jn a (jn b c) := by
  unfold jn
  rw [List.map_map]
  refine List.map_congr_left fun x hx => ?_
  show c.getD (b.getD x 0) 0 = (jn b c).getD x 0
  rw [jn_get (h x hx)]
/-- a seating -/
def SeatB (a : List Int) : Bool := decide (1 ≤ a.length) && decide (a.length ≤ 16) && (List.range a.length).all fun k => decide ((k : Int) ∈ a)
theorem seatB_N {n : Nat} {a : List Nat} (h : IsP n a) (h1 : 1 ≤ n) (h2 : n ≤ 16) : SeatB (a.map fun (x : Nat) => (x : Int)) = true := by
  unfold SeatB
  rw [List.length_map, h.len, decide_eq_true h1, decide_eq_true h2]
  refine List.all_eq_true.mpr fun k hk => decide_eq_true ?_
  exact List.mem_map.mpr ⟨k, h.mem (List.mem_range.mp hk), rfl⟩
theorem seatB_is {a : List Int} (h : SeatB a = true) : ∃ b : List Nat, IsP a.length b ∧ a = b.map (fun (x : Nat) => (x : Int)) ∧ 1 ≤ a.length ∧ a.length ≤ 16 := by
  unfold SeatB at h
  rw [Bool.and_eq_true, Bool.and_eq_true] at h
  obtain ⟨⟨h1, h2⟩, h3⟩ := h
  have h3 := List.all_eq_true.mp h3
  have hin : ∀ k, k < a.length → k ∈ a.map Int.toNat := fun k hk => by
    have q := of_decide_eq_true (h3 k (List.mem_range.mpr hk))
    exact List.mem_map.mpr ⟨_, q, by omega⟩
  have P : IsP a.length (a.map Int.toNat) := isP_of_all (List.length_map ..) hin
  have nn : ∀ x ∈ a, 0 ≤ x := by
    -- were one below nought, its place would be free for none of 0 .. n - 1
    have hall : ∀ k, k < a.length → (k : Int) ∈ a := fun k hk => of_decide_eq_true (h3 k (List.mem_range.mpr hk))
    have : (List.range a.length).map (fun (x : Nat) => (x : Int)) |>.Nodup := by
      refine List.pairwise_map.mpr (List.Pairwise.imp (fun hne e => hne (Int.ofNat.inj e)) (List.nodup_range (n := a.length)))
    intro x hx
    refine Decidable.byContradiction fun hneg => ?_
    have hsub : ∀ y ∈ (List.range a.length).map (fun (x : Nat) => (x : Int)), y ∈ a.erase x := fun y hy => by
      obtain ⟨k, hk, e⟩ := List.mem_map.mp hy
      have hne : y ≠ x := fun z => by
        have : (k : Int) = x := e.trans z
        omega
      refine (List.mem_erase_of_ne hne).mpr ?_
      rw [← e]
      exact hall k (List.mem_range.mp hk)
    have hle := nd_sub_len this hsub
    rw [List.length_map, List.length_range, List.length_erase_of_mem hx] at hle
    have : 0 < a.length := List.length_pos_of_mem hx
    omega
  refine ⟨a.map Int.toNat, P, ?_, of_decide_eq_true h1, of_decide_eq_true h2⟩
  rw [List.map_map]
  conv => lhs; rw [← List.map_id a]
  exact List.map_congr_left fun x hx => by
    show x = ((x.toNat : Nat) : Int)
    have := nn x hx
    omega
/-! ### data as a whole -/
section
variable {K : PySem.W.Frag} {H : Hp} {Q : VK} {p q : Addr}
theorem dpAll_of : ∀ {xs : List V} {ds : List PyData}, (∀ (i : Nat) (x : V) (d : PyData), xs[i]? = some x → ds[i]? = some d → Dp K H x d) → xs.length = ds.length → DpAll K H xs ds
  | [], [], _, _ => .nil
  | [], _ :: _, _, h => by simp at h
  | _ :: _, [], _, h => by simp at h
  | x :: xs, d :: ds, h, hl => .cons (h 0 x d rfl rfl) (dpAll_of (fun i y e h1 h2 => h (i + 1) y e (by simpa using h1) (by simpa using h2)) (by simpa using hl))
theorem dpAll_I : ∀ (a : List Int), DpAll K H (vI a) (a.map PyData.int)
  | [] => .nil
  | x :: r => .cons (.int x) (dpAll_I r)
def dT (a : List Int) : PyData := .tuple (a.map PyData.int)
def dL (a : List Int) : PyData := .list (a.map PyData.int)
theorem dp_T {a : List Int} (h : SqT K H p (vI a)) : Dp K H (.ref p) (dT a) := .tup h (dpAll_I a)
theorem dp_L {a : List Int} (h : SqL K H p (vI a)) : Dp K H (.ref p) (dL a) := .lst h (dpAll_I a)
theorem eqvAll_map {α : Type} [DecidableEq α] {f : α → PyData} (h : ∀ x y, PyData.eqv (f x) (f y) = decide (x = y)) : ∀ (a b : List α), PyData.eqvAll (a.map f) (b.map f) = decide (a = b)
  | [], [] => by rw [decide_eq_true rfl] <;> simp [PyData.eqvAll]
  | [], _ :: _ => by rw [decide_eq_false (fun z => by cases z)] <;> simp [PyData.eqvAll]
  | _ :: _, [] => by rw [decide_eq_false (fun z => by cases z)] <;> simp [PyData.eqvAll]
  | x :: a, y :: b => by
    show PyData.eqvAll (f x :: a.map f) (f y :: b.map f) = _
    unfold PyData.eqvAll
    rw [h, eqvAll_map h a b]
    by_cases e : x = y
    · subst e
      by_cases e2 : a = b
      · subst e2; simp
      · rw [decide_eq_false e2, Bool.and_false, decide_eq_false (fun z => e2 (List.cons.inj z).2)]
    · rw [decide_eq_false e, Bool.false_and, decide_eq_false (fun z => e (List.cons.inj z).1)]
theorem eqv_int (x y : Int) : PyData.eqv (.int x) (.int y) = decide (x = y) := by
  unfold PyData.eqv
  by_cases e : x = y
  · subst e; simp
  · rw [decide_eq_false e]; simpa using e
theorem eqv_T (a b : List Int) : PyData.eqv (dT a) (dT b) = decide (a = b) := by
  unfold dT PyData.eqv
  exact eqvAll_map eqv_int a b
theorem eqv_L (a b : List Int) : PyData.eqv (dL a) (dL b) = decide (a = b) := by
  unfold dL PyData.eqv
  exact eqvAll_map eqv_int a b
theorem canAll_map {α : Type} {f : α → PyData} (h : ∀ x, (f x).canLay0 = true) : ∀ (a : List α), PyData.canLayAll0 (a.map f) = true
  | [] => by simp [PyData.canLayAll0]
  | x :: a => by
    show PyData.canLayAll0 (f x :: a.map f) = true
    unfold PyData.canLayAll0
    rw [h x, canAll_map h a] <;> rfl
theorem depthAll_map {α : Type} {f : α → PyData} {n : Nat} (h : ∀ x, (f x).depth ≤ n) : ∀ (a : List α), PyData.depthAll (a.map f) ≤ n
  | [] => by simp [PyData.depthAll]
  | x :: a => by
    show PyData.depthAll (f x :: a.map f) ≤ n
    have h1 := h x
    have h2 := depthAll_map h a
    unfold PyData.depthAll
    omega
theorem can_T (a : List Int) : (dT a).canLay0 = true := by
  unfold dT PyData.canLay0
  exact canAll_map (fun x => by simp [PyData.canLay0]) a
theorem can_L (a : List Int) : (dL a).canLay0 = true := by
  unfold dL PyData.canLay0
  exact canAll_map (fun x => by simp [PyData.canLay0]) a
theorem dep_T (a : List Int) : (dT a).depth ≤ 1 := by
  unfold dT PyData.depth
  have := depthAll_map (f := PyData.int) (n := 0) (fun x => by simp [PyData.depth]) a
  omega
theorem dep_L (a : List Int) : (dL a).depth ≤ 1 := by
  unfold dL PyData.depth
  have := depthAll_map (f := PyData.int) (n := 0) (fun x => by simp [PyData.depth]) a
  omega
theorem shp {d : PyData} (h : d.canLay0 = true) (h2 : d.depth ≤ 64) : SeqAt.shaped d = true := by
  unfold SeqAt.shaped
  rw [h, decide_eq_true h2] <;> rfl
theorem shp_T (a : List Int) : SeqAt.shaped (dT a) = true := shp (can_T a) (by have := dep_T a; omega)
theorem shp_L (a : List Int) : SeqAt.shaped (dL a) = true := shp (can_L a) (by have := dep_L a; omega)
theorem eq_TI {a b : List Int} (ha : SqT K H p (vI a)) (hb : SqT K H q (vI b)) (k : Q (.bl (decide (a = b))) H) : rEqD K (.ref p) (.ref q) H Q := ⟨dT a, dT b, dp_T ha, dp_T hb, shp_T a, shp_T b, by rw [eqv_T]; exact k⟩
theorem ne_TI {a b : List Int} (ha : SqT K H p (vI a)) (hb : SqT K H q (vI b)) (k : Q (.bl (!decide (a = b))) H) : rNeD K (.ref p) (.ref q) H Q := ⟨dT a, dT b, dp_T ha, dp_T hb, shp_T a, shp_T b, by rw [eqv_T]; exact k⟩
theorem vInj {a b : List Nat} : (a.map (fun (x : Nat) => (x : Int)) = b.map (fun (x : Nat) => (x : Int))) ↔ a = b := by
  constructor
  · intro h
    have e := congrArg (List.map Int.toNat) h
    rw [List.map_map, List.map_map] at e
    have i : (Int.toNat ∘ fun (x : Nat) => (x : Int)) = id := by funext x; rfl
    rw [i, List.map_id, List.map_id] at e
    exact e
  · intro h; rw [h]
theorem dec_iff {p q : Prop} [Decidable p] [Decidable q] (h : p ↔ q) : decide p = decide q := by
  by_cases hp : p
  · rw [decide_eq_true hp, decide_eq_true (h.mp hp)]
  · rw [decide_eq_false hp, decide_eq_false (fun z => hp (h.mpr z))]
theorem eq_TN {a b : List Nat} (ha : SqT K H p (vN a)) (hb : SqT K H q (vN b)) (k : Q (.bl (decide (a = b))) H) : rEqD K (.ref p) (.ref q) H Q := by
  rw [vN_eq] at ha hb
  refine eq_TI ha hb ?_
  rw [dec_iff vInj]
  exact k
theorem ne_TN {a b : List Nat} (ha : SqT K H p (vN a)) (hb : SqT K H q (vN b)) (k : Q (.bl (!decide (a = b))) H) : rNeD K (.ref p) (.ref q) H Q := by
  rw [vN_eq] at ha hb
  refine ne_TI ha hb ?_
  rw [dec_iff vInj]
  exact k
theorem set_N {a : List Nat} {z : Int} {i n : Nat} {R : Hp → Prop} (h : H p = some (.lst (vN a))) (hi : i < a.length) (e : z = (i : Int)) (k : R (upd H p (.lst (vN (a.set i n))))) : rSetL (.ref p) (.int z) (.int (n : Int)) H R := by
  refine ⟨p, _, z, i, rfl, rfl, h, ?_, ?_⟩
  · unfold ixN
    rw [vN_len, if_pos (by omega), if_pos (by omega), e] <;> rfl
  · have e2 : (vN a).set i (V.int (n : Int)) = vN (a.set i n) := by
      show (a.map _).set i _ = (a.set i n).map _
      rw [List.map_set]
    rw [e2]
    exact k
theorem rep_0 {n : Nat} (hn : n ≤ 100000) (h : H p = some (.lst [V.int 0])) (k : ∀ l, H l = none → Q (.ref l) (upd H l (.lst (vN (List.replicate n 0))))) : rRep (.ref p) (.int (n : Int)) H Q := by
  refine ⟨p, _, _, rfl, rfl, h, by omega, by omega, zl (by show 1 * ((n : Int)).toNat ≤ 100000; omega), fun l hl => ?_⟩
  have e : (List.replicate ((n : Int)).toNat [V.int 0]).flatten = vN (List.replicate n 0) := by
    show (List.replicate n [V.int 0]).flatten = (List.replicate n 0).map _
    rw [List.map_replicate]
    clear k hl
    induction n with
    | zero => rfl
    | succ m ih => rw [List.replicate_succ, List.flatten_cons, ih (by omega), List.replicate_succ] <;> rfl
  rw [e]
  exact k l hl
end
theorem if_nd {c : Prop} [Decidable c] {A B : Prop} (h1 : ¬ c → A) (h2 : c → B) : if (!decide c) = true then A else B := by
  by_cases h : c
  · rw [decide_eq_true h]; exact if_f rfl (h2 h)
  · rw [decide_eq_false h]; exact if_t rfl (h1 h)
theorem if_nb {c : Bool} {A B : Prop} (h1 : c = false → A) (h2 : c = true → B) : if (!c) = true then A else B := by
  cases c with
  | true => exact if_f rfl (h2 rfl)
  | false => exact if_t rfl (h1 rfl)
theorem take_more {α : Type} {l : List α} {i : Nat} {x : α} (h : l[i]? = some x) : l.take (i + 1) = l.take i ++ [x] := by
  rw [List.take_add_one, h] <;> rfl
theorem vN_get {a : List Nat} {i : Nat} {x : V} (h : (vN a)[i]? = some x) : ∃ n, a[i]? = some n ∧ x = V.int (n : Int) := by
  have h : (a.map fun (n : Nat) => V.int (n : Int))[i]? = some x := h
  rw [List.getElem?_map] at h
  cases e : a[i]? with
  | none => rw [e] at h; cases h
  | some n => rw [e] at h; exact ⟨n, rfl, (Option.some.inj h).symm⟩
theorem vN_app (a : List Nat) (n : Nat) : vN a ++ [V.int (n : Int)] = vN (a ++ [n]) := by
  show a.map _ ++ _ = (a ++ [n]).map _
  rw [List.map_append] <;> rfl
theorem rangeS {α : Type} (f : Nat → α) (j : Nat) : (List.range (j + 1)).map f = (List.range j).map f ++ [f j] := by rw [List.range_succ, List.map_append] <;> rfl
end Shf

local macro_rules | `(tactic| walk_at "ex") => `(tactic| repeat (with_reducible first
  | refine Shf.w_op ?_ | refine Shf.w_c ?_
  | (show L2.tVar _ _ _ _; with_unfolding_all refine Shf.w_var rfl ?_)
  | refine Shf.w_nil ?_ | refine Shf.w_cons ?_ | refine Shf.w_cb ?_ | refine Shf.w_call ?_ | refine Shf.w_test ?_ | refine Shf.w_b ?_ | refine Shf.w_bex ?_
  | refine Shf.w_and ?_ | refine Shf.w_or ?_ | refine Shf.w_not ?_ | refine Shf.w_andV ?_ | refine Shf.w_orV ?_ | refine Shf.w_notV ?_ | refine Shf.w_ife ?_
  | refine Shf.w_add ?_ | refine Shf.w_sub ?_ | refine Shf.w_neg ?_ | refine Shf.w_lt ?_ | refine Shf.w_le ?_ | refine Shf.w_gt ?_ | refine Shf.w_ge ?_ | refine Shf.eq_I ?_ | refine Shf.ne_I ?_ | refine Shf.eq_B ?_ | refine Shf.ne_B ?_
  | refine Shf.w_tup ?_ | refine Shf.w_lst ?_ | refine Shf.w_lrg ?_ | refine Shf.w_trg ?_ | refine Shf.w_rg1 ?_ | refine Shf.w_iex ?_ | refine Shf.w_bm ?_ | refine Shf.w_bm0 ?_ | refine Shf.w_un ?_ | refine Shf.w_fld ?_ | refine Shf.w_dget ?_ | refine Shf.w_dget1 ?_ | refine Shf.w_meth ?_ | refine Shf.w_make ?_
  | refine Shf.w_yes ?_ | refine L2.iteT ?_ | refine L2.iteF ?_ | refine Shf.w_irng1 ?_ | refine Shf.w_irng2 ?_ | refine Shf.w_ilist ?_ | refine Shf.w_itup ?_))
local macro_rules | `(tactic| walk_at "st") => `(tactic| with_reducible first | refine Shf.w_asg ?_ | refine Shf.w_drop ?_ | refine Shf.w_ret ?_ | refine Shf.w_next ?_ | refine Shf.w_asgS ?_ | refine Shf.w_sfld ?_ | refine Shf.w_for ?_ | refine Shf.w_if ?_)
local macro_rules | `(tactic| walk_at "sq") => `(tactic| with_reducible refine Shf.w_seq ?_)
local macro_rules | `(tactic| walk_at "re") => `(tactic| repeat (with_reducible first
  | refine Shf.w_asg ?_ | refine Shf.w_drop ?_ | refine Shf.w_ret ?_ | refine Shf.w_next ?_ | refine Shf.w_op ?_ | refine Shf.w_c ?_
  | (show L2.tVar _ _ _ _; with_unfolding_all refine Shf.w_var rfl ?_)
  | refine Shf.w_nil ?_ | refine Shf.w_cons ?_ | refine Shf.w_cb ?_ | refine Shf.w_call ?_ | refine Shf.w_test ?_ | refine Shf.w_b ?_ | refine Shf.w_bex ?_
  | refine Shf.w_and ?_ | refine Shf.w_or ?_ | refine Shf.w_not ?_ | refine Shf.w_andV ?_ | refine Shf.w_orV ?_ | refine Shf.w_notV ?_ | refine Shf.w_ife ?_
  | refine Shf.w_add ?_ | refine Shf.w_sub ?_ | refine Shf.w_neg ?_ | refine Shf.w_lt ?_ | refine Shf.w_le ?_ | refine Shf.w_gt ?_ | refine Shf.w_ge ?_ | refine Shf.eq_I ?_ | refine Shf.ne_I ?_ | refine Shf.eq_B ?_ | refine Shf.ne_B ?_
  | refine Shf.w_tup ?_ | refine Shf.w_lst ?_ | refine Shf.w_lrg ?_ | refine Shf.w_trg ?_ | refine Shf.w_rg1 ?_ | refine Shf.w_iex ?_ | refine Shf.w_bm ?_ | refine Shf.w_bm0 ?_ | refine Shf.w_un ?_ | refine Shf.w_asgS ?_ | refine Shf.w_fld ?_ | refine Shf.w_sfld ?_ | refine Shf.w_dget ?_ | refine Shf.w_dget1 ?_ | refine Shf.w_meth ?_ | refine Shf.w_make ?_
  | refine Shf.w_yes ?_ | refine L2.iteT ?_ | refine L2.iteF ?_ | refine Shf.w_irng1 ?_ | refine Shf.w_irng2 ?_ | refine Shf.w_ilist ?_ | refine Shf.w_itup ?_))
local macro_rules | `(tactic| walk_at "rd") => `(tactic| repeat (with_reducible first
  | refine Shf.w_seq ?_ | refine Shf.w_if ?_ | refine Shf.w_asg ?_ | refine Shf.w_drop ?_ | refine Shf.w_ret ?_ | refine Shf.w_next ?_ | refine Shf.w_op ?_ | refine Shf.w_c ?_
  | (show L2.tVar _ _ _ _; with_unfolding_all refine Shf.w_var rfl ?_)
  | refine Shf.w_nil ?_ | refine Shf.w_cons ?_ | refine Shf.w_cb ?_ | refine Shf.w_call ?_ | refine Shf.w_test ?_ | refine Shf.w_b ?_ | refine Shf.w_bex ?_
  | refine Shf.w_and ?_ | refine Shf.w_or ?_ | refine Shf.w_not ?_ | refine Shf.w_andV ?_ | refine Shf.w_orV ?_ | refine Shf.w_notV ?_ | refine Shf.w_ife ?_
  | refine Shf.w_add ?_ | refine Shf.w_sub ?_ | refine Shf.w_neg ?_ | refine Shf.w_lt ?_ | refine Shf.w_le ?_ | refine Shf.w_gt ?_ | refine Shf.w_ge ?_ | refine Shf.eq_I ?_ | refine Shf.ne_I ?_ | refine Shf.eq_B ?_ | refine Shf.ne_B ?_
  | refine Shf.w_tup ?_ | refine Shf.w_lst ?_ | refine Shf.w_lrg ?_ | refine Shf.w_trg ?_ | refine Shf.w_rg1 ?_ | refine Shf.w_iex ?_ | refine Shf.w_bm ?_ | refine Shf.w_bm0 ?_ | refine Shf.w_un ?_ | refine Shf.w_asgS ?_ | refine Shf.w_fld ?_ | refine Shf.w_sfld ?_ | refine Shf.w_dget ?_ | refine Shf.w_dget1 ?_ | refine Shf.w_meth ?_ | refine Shf.w_make ?_
  | refine Shf.w_yes ?_ | refine L2.iteT ?_ | refine L2.iteF ?_ | refine Shf.w_for ?_ | refine Shf.w_irng1 ?_ | refine Shf.w_irng2 ?_ | refine Shf.w_ilist ?_ | refine Shf.w_itup ?_))
/-! the seats: is_seating .. back; the laws' common helpers -/
namespace Shf
open PySem L2
def sp_law (K : PySem.W.Frag) : Sp := fun vs H Q _ => ∃ (a : Addr) (ns : List Int), vs = [.ref a] ∧ SqL K H a (ns.map V.int) ∧ ns.length ≤ 63 ∧ ∀ H', Q (.bl true) H'
theorem len_law (K : PySem.W.Frag) (g : Gd) (vs : List V) (H : Hp) (Q : VK) (E : XK) (h : sp_law K vs H Q E) : vs.length = 1 := by obtain ⟨_, _, rfl, _⟩ := h; rfl
/-- the reading of a def's body -/
abbrev Rd1 (t : TS) (N : List Str) (vs : List V) (H : Hp) (Q : VK) : Prop := t { nx := fun _ H' => Q .non H', rt := Q } (start N vs) H
/-- membership of an int in a list of ints -/
theorem inV_I (x : Int) (a : List Int) : inV (V.int x) (vI a) = decide (x ∈ a) := by
  unfold inV
  rw [List.any_map]
  induction a with
  | nil => rfl
  | cons y r ih =>
    rw [List.any_cons, ih]
    show (eqV (V.int y) (V.int x) || _) = _
    by_cases e : x = y
    · subst e
      have : eqV (V.int x) (V.int x) = true := by simp [eqV]
      rw [this, decide_eq_true (List.mem_cons_self)] <;> rfl
    · have : eqV (V.int y) (V.int x) = false := by simp [eqV]; exact fun z => e z.symm
      rw [this, Bool.false_or]
      by_cases m : x ∈ r
      · rw [decide_eq_true m, decide_eq_true (List.mem_cons_of_mem _ m)]
      · rw [decide_eq_false m, decide_eq_false (fun z => by rcases List.mem_cons.mp z with z | z; exact e z; exact m z)]
theorem flat_I (a : List Int) : (vI a).all flatV = true := by
  rw [List.all_map]
  exact List.all_eq_true.mpr fun _ _ => rfl
section
variable {K : PySem.W.Frag} {H : Hp} {Q : VK} {p : Addr}
theorem in_TI {a : List Int} {x : Int} (h : SqT K H p (vI a)) (k : Q (.bl (decide (x ∈ a))) H) : rIn K false (.int x) (.ref p) H Q := ⟨p, _, rfl, .inr h, rfl, flat_I a, by rw [inV_I]; exact k⟩
theorem notin_TI {a : List Int} {x : Int} (h : SqT K H p (vI a)) (k : Q (.bl (!decide (x ∈ a))) H) : rIn K true (.int x) (.ref p) H Q := ⟨p, _, rfl, .inr h, rfl, flat_I a, by rw [inV_I]; exact k⟩
theorem in_LI {a : List Int} {x : Int} (h : SqL K H p (vI a)) (k : Q (.bl (decide (x ∈ a))) H) : rIn K false (.int x) (.ref p) H Q := ⟨p, _, rfl, .inl h, rfl, flat_I a, by rw [inV_I]; exact k⟩
theorem notin_LI {a : List Int} {x : Int} (h : SqL K H p (vI a)) (k : Q (.bl (!decide (x ∈ a))) H) : rIn K true (.int x) (.ref p) H Q := ⟨p, _, rfl, .inl h, rfl, flat_I a, by rw [inV_I]; exact k⟩
end
theorem set_I {H : Hp} {p : Addr} {a : List Int} {z n : Int} {i : Nat} {R : Hp → Prop} (h : H p = some (.lst (vI a))) (hi : i < a.length) (e : z = (i : Int)) (k : R (upd H p (.lst (vI (a.set i n))))) : rSetL (.ref p) (.int z) (.int n) H R := by
  refine ⟨p, _, z, i, rfl, rfl, h, ?_, ?_⟩
  · unfold ixN
    rw [vI_len, if_pos (by omega), if_pos (by omega), e] <;> rfl
  · have e2 : (vI a).set i (V.int n) = vI (a.set i n) := by
      show (a.map _).set i _ = (a.set i n).map _
      rw [List.map_set]
    rw [e2]
    exact k
theorem pow_10 {H : Hp} {Q : VK} {n : Nat} (hn : n ≤ 1000) (k : Q (.int (10 ^ n)) H) : rPowI (.int 10) (.int (n : Int)) H Q := ⟨10, n, rfl, rfl, ⟨by omega, by omega, by decide⟩, k⟩
theorem is_bl {K : PySem.W.Frag} {H : Hp} {Q : VK} {b : Bool} (k : Q (.bl true) H) : rIsi K [.bl b, .ty "bool"] H Q := ⟨_, _, .type "bool", _, true, rfl, .ty "bool", .base (.bl b), kit_ty (by decide +kernel), k⟩
theorem is_lst {K : PySem.W.Frag} {H : Hp} {Q : VK} {p : Addr} {xs : List V} (h : H p = some (.lst xs)) (k : Q (.bl true) H) : rIsi K [.ref p, .ty "list"] H Q :=
  ⟨_, _, .type "list", _, true, rfl, .ty "list", .base (.lst h), kit_ty (by decide +kernel), k⟩
theorem is_bool {K : PySem.W.Frag} {H : Hp} {Q : VK} {b : Bool} (k : Q (.bl true) H) : rIsi K [.bl b, .ty "bool"] H Q := ⟨_, _, .type "bool", _, true, rfl, .ty "bool", .base (.bl b), kit_ty (by decide +kernel), k⟩
theorem is_tup {K : PySem.W.Frag} {H : Hp} {Q : VK} {p : Addr} {xs : List V} (h : H p = some (.tup xs)) (k : Q (.bl true) H) : rIsi K [.ref p, .ty "tuple"] H Q :=
  ⟨_, _, .type "tuple", _, true, rfl, .ty "tuple", .base (.tup h), kit_ty (by decide +kernel), k⟩
theorem is_str {K : PySem.W.Frag} {H : Hp} {Q : VK} {b : Str} (k : Q (.bl true) H) : rIsi K [.str b, .ty "str"] H Q := ⟨_, _, .type "str", _, true, rfl, .ty "str", .base (.str b), kit_ty (by decide +kernel), k⟩
theorem ix_lastV' {K : PySem.W.Frag} {H : Hp} {Q : VK} {p : Addr} {xs : List V} {v : V} {z : Int} (h : SqL K H p (xs ++ [v])) (e : z = -1) (q : Q v H) : rIxL K (.ref p) (.int z) H Q := by
  subst e
  exact ⟨p, _, _, _, rfl, rfl, h, atI_last _ _, q⟩
theorem _root_.L2.Same.lst {K : PySem.W.Frag} {H H' : Hp} {a : Addr} {xs : List V} (e : Same H H') (h : SqL K H a xs) : SqL K H' a xs := e.seq h
theorem w_lc {wi : TI} {g : TG} {tt : TT} {te : TE} {vs : List Nat} {σ : L2.St} {H : Hp} {Q : VK} (h : wi σ H fun J H1 => ∀ D, H1 D = none → ∃ W : Nat → Nat → Hp → Prop, (∃ m, W 0 m (upd H1 D (.lst []))) ∧ ∀ i m H, W i m H →
  (J.stop i H ∧ Q (.ref D) H) ∨ (J.go i H ∧ ∃ Nx : Hp → Prop, (∀ H', Nx H' → ∃ m', m' < m ∧ W (i + 1) m' H') ∧ ∀ x H', J.yld i H x H' → g x (wipe σ vs) H' fun σ2 H2 => wipe σ2 vs = wipe σ vs ∧ tt σ2 H2 fun b H3 =>
    if b = true then te σ2 H3 fun y H4 => ∃ acc, H4 D = some (.lst acc) ∧ acc.length < sizeLine ∧ Nx (upd H4 D (.lst (acc ++ [y]))) else Nx H3)) : tLc wi g tt te vs σ H Q := h
def sp_L_cell_at (K : PySem.W.Frag) (g : Gd) : Sp := fun vs H Q _ => ∃ (a : Addr) (ns : List Int) (j : Nat), vs = [.ref a, .int (j : Int)] ∧ SqL K H a (vI ns) ∧ Q (.int (ns.getD j 0)) H
theorem len_L_cell_at (K : PySem.W.Frag) (g : Gd) (vs : List V) (H : Hp) (Q : VK) (E : XK) (h : sp_L_cell_at K g vs H Q E) : vs.length = 2 := by obtain ⟨_, _, _, rfl, _⟩ := h; rfl
abbrev N_L_cell_at : List Str := ["script", "k"]
/-- _law_cell_at -/
def t_L_cell_at (K : PySem.W.Frag) (g : Gd) (E : XK) : TS :=
  (tSeq (tIfS (tTest (tOp rLtI (tVar 1) (tCB (rLenQ K) (tCons (tVar 0) tNil)))) (tRet (tOp (rIxL K) (tVar 0) (tVar 1))) tNext)
    (tRet (tC (.int 0))))
theorem pure_L_cell_at {K : PySem.W.Frag} {g : Gd} (vs : List V) (H : Hp) (Q : VK) (E : XK) (h : sp_L_cell_at K g vs H Q E) : Rd1 (t_L_cell_at K g E) N_L_cell_at vs H Q := by
  obtain ⟨a, ns, j, rfl, hS, k⟩ := h
  unfold t_L_cell_at
  walk_at "rd"
  refine len_LI hS ?_
  walk_at "rd"
  refine if_d (fun c => ?_) (fun c => ?_)
  · walk_at "rd"
    have hj : j < ns.length := by omega
    refine ix_L (i := j) (v := .int (ns.getD j 0)) hS (vI_at ?_) rfl k
    rw [List.getD_eq_getElem?_getD, List.getElem?_eq_getElem hj] <;> rfl
  · have e : ns.getD j 0 = 0 := by
      rw [List.getD_eq_getElem?_getD, List.getElem?_eq_none (by omega)] <;> rfl
    rw [e] at k
    exact k
def sp_L_whole (K : PySem.W.Frag) (g : Gd) : Sp := fun vs H Q _ => ∃ i : Int, vs = [.int i] ∧ Q (.bl true) H
theorem len_L_whole (K : PySem.W.Frag) (g : Gd) (vs : List V) (H : Hp) (Q : VK) (E : XK) (h : sp_L_whole K g vs H Q E) : vs.length = 1 := by obtain ⟨_, rfl, _⟩ := h; rfl
abbrev N_L_whole : List Str := ["found"]
/-- _law_whole -/
def t_L_whole (K : PySem.W.Frag) (g : Gd) (E : XK) : TS :=
  (tRet (tAndV (tCB (rIsi K) (tCons (tVar 0) (tCons (tC (.ty "int")) tNil))) (tNotV (tCB (rIsi K) (tCons (tVar 0) (tCons (tC (.ty "bool")) tNil))))))
theorem pure_L_whole {K : PySem.W.Frag} {g : Gd} (vs : List V) (H : Hp) (Q : VK) (E : XK) (h : sp_L_whole K g vs H Q E) : Rd1 (t_L_whole K g E) N_L_whole vs H Q := by
  obtain ⟨i, rfl, k⟩ := h
  refine ⟨_, rfl, _, _, .type "int", _, true, rfl, .ty "int", .base (.int i), kit_ty (by decide +kernel), true, rfl, iteT ?_⟩
  exact ⟨_, rfl, _, _, .type "int", _, false, rfl, .ty "bool", .base (.int i), kit_ty (by decide +kernel), _, rfl, k⟩
def sp_ask_size (K : PySem.W.Frag) (g : Gd) : Sp := fun vs H Q E => ∃ n : Int, vs = [.int n] ∧ (1 ≤ n ∧ n ≤ 16 → Q .non H) ∧ (¬ (1 ≤ n ∧ n ≤ 16) → E (.ref g.NoSize) none H)
theorem len_ask_size (K : PySem.W.Frag) (g : Gd) (vs : List V) (H : Hp) (Q : VK) (E : XK) (h : sp_ask_size K g vs H Q E) : vs.length = 1 := by obtain ⟨_, rfl, _⟩ := h; rfl
abbrev N_ask_size : List Str := ["size"]
/-- ask_size -/
def t_ask_size (K : PySem.W.Frag) (g : Gd) (E : XK) : TS :=
  (tIfS (tOr (tTest (tOp rLtI (tVar 0) (tC (.int 1)))) (tTest (tOp rGtI (tVar 0) (tC (.int 16))))) (tRaiseW (wE E) g.NoSize) tNext)
theorem pure_ask_size {K : PySem.W.Frag} {g : Gd} (vs : List V) (H : Hp) (Q : VK) (E : XK) (h : sp_ask_size K g vs H Q E) : Rd1 (t_ask_size K g E) N_ask_size vs H Q := by
  obtain ⟨n, rfl, k, e⟩ := h
  unfold t_ask_size
  walk_at "rd"
  refine if_d (fun c => ?_) (fun c => ?_)
  · walk_at "rd"
    exact e (by omega)
  walk_at "rd"
  refine if_d (fun c2 => ?_) (fun c2 => ?_)
  · exact e (by omega)
  · exact k (by omega)
def sp_rest (K : PySem.W.Frag) (g : Gd) : Sp := fun vs H Q E => ∃ n : Int, vs = [.int n] ∧ (1 ≤ n ∧ n ≤ 16 → NewT H (List.range n.toNat) Q) ∧ (¬ (1 ≤ n ∧ n ≤ 16) → E (.ref g.NoSize) none H)
theorem len_rest (K : PySem.W.Frag) (g : Gd) (vs : List V) (H : Hp) (Q : VK) (E : XK) (h : sp_rest K g vs H Q E) : vs.length = 1 := by obtain ⟨_, rfl, _⟩ := h; rfl
abbrev N_rest : List Str := ["size"]
/-- rest -/
def t_rest (K : PySem.W.Frag) (g : Gd) (E : XK) : TS :=
  (tSeq (tDrop (tCallS (sp_ask_size K g) (WE (wE E)) (tCons (tVar 0) tNil)))
    (tRet (tTupRg (tRg1 (tVar 0)))))
theorem pure_rest {K : PySem.W.Frag} {g : Gd} (vs : List V) (H : Hp) (Q : VK) (E : XK) (h : sp_rest K g vs H Q E) : Rd1 (t_rest K g E) N_rest vs H Q := by
  obtain ⟨n, rfl, k, e⟩ := h
  unfold t_rest
  walk_at "rd"
  refine ⟨n, rfl, fun c => ?_, e⟩
  obtain ⟨m, rfl⟩ : ∃ m : Nat, n = (m : Int) := ⟨n.toNat, by omega⟩
  walk_at "rd"
  refine ⟨rgOk_N (by omega), fun r hr => ?_⟩
  exact k c r _ ((Same.refl H).new hr) hr (by rw [upd_same, rgV_N] <;> rfl)
theorem erase_perm {α : Type} : ∀ {l : List α} {i : Nat} (h : i < l.length), (l[i] :: l.eraseIdx i).Perm l
  | [], _, h => absurd h (Nat.not_lt_zero _)
  | _ :: _, 0, _ => List.Perm.refl _
  | a :: l, i + 1, h => by
    have h' : i < l.length := Nat.lt_of_succ_lt_succ h
    have ih := erase_perm (l := l) (i := i) h'
    show (l[i] :: a :: l.eraseIdx i).Perm (a :: l)
    exact (List.Perm.swap a l[i] _).trans (List.Perm.cons a ih)
/-- drawing: the i-th of what is left, put behind what is drawn -/
theorem draw_perm {left row : List Nat} {i : Nat} (h : i < left.length) : ((row ++ [left.getD i 0]) ++ left.eraseIdx i).Perm (row ++ left) := by
  rw [List.append_assoc]
  refine List.Perm.append_left row ?_
  have e : left.getD i 0 = left[i] := by rw [List.getD_eq_getElem?_getD, List.getElem?_eq_getElem h] <;> rfl
  rw [e]
  exact erase_perm h
def drawStep (n : Nat) (f : Int → Int) (d : Int → Int → Int) (s : Int × List Nat × List Nat) (k : Nat) : Int × List Nat × List Nat :=
  let c := f s.1
  let m : Int := (n : Int) - (k : Int)
  (d c m, s.2.1.eraseIdx (c % m).toNat, s.2.2 ++ [s.2.1.getD (c % m).toNat 0])
def drawSt (n : Nat) (f : Int → Int) (d : Int → Int → Int) (c : Int) (k : Nat) : Int × List Nat × List Nat := (List.range k).foldl (drawStep n f d) (c, List.range n, [])
theorem drawSt_succ (n : Nat) (f : Int → Int) (d : Int → Int → Int) (c : Int) (k : Nat) : drawSt n f d c (k + 1) = drawStep n f d (drawSt n f d c k) k := by
  unfold drawSt
  rw [List.range_succ, List.foldl_append] <;> rfl
theorem drawSt_ok (n : Nat) (f : Int → Int) (d : Int → Int → Int) (c : Int) : ∀ k, k ≤ n → (drawSt n f d c k).2.1.length = n - k ∧ (drawSt n f d c k).2.2.length = k ∧ ((drawSt n f d c k).2.2 ++ (drawSt n f d c k).2.1).Perm (List.range n)
  | 0, _ => ⟨List.length_range, rfl, List.Perm.refl _⟩
  | k + 1, hk => by
    obtain ⟨h1, h2, h3⟩ := drawSt_ok n f d c k (by omega)
    rw [drawSt_succ]
    have hm : (0 : Int) < (n : Int) - (k : Int) := by omega
    have hi : ((f (drawSt n f d c k).1) % ((n : Int) - (k : Int))).toNat < (drawSt n f d c k).2.1.length := by
      have a := Int.emod_nonneg (f (drawSt n f d c k).1) (Int.ne_of_gt hm)
      have b := Int.emod_lt_of_pos (f (drawSt n f d c k).1) hm
      omega
    refine ⟨?_, ?_, (draw_perm hi).trans h3⟩
    · show (List.eraseIdx _ _).length = _
      rw [List.length_eraseIdx_of_lt hi, h1]; omega
    · show (_ ++ [_]).length = _
      rw [List.length_append, h2]; rfl
theorem drawSt_perm (n : Nat) (f : Int → Int) (d : Int → Int → Int) (c : Int) : IsP n (drawSt n f d c n).2.2 := by
  obtain ⟨h1, h2, h3⟩ := drawSt_ok n f d c n (Nat.le_refl n)
  have e : (drawSt n f d c n).2.1 = [] := List.length_eq_zero_iff.mp (by omega)
  rw [e, List.append_nil] at h3
  exact h3
/-- any seating of n by a cell -/
def seatN (c : Int) (n : Nat) : List Nat := (drawSt n (fun c => c) (fun c m => c / m) c n).2.2
/-- .. by a cell mixed -/
def farN (c : Int) (n : Nat) : List Nat := (drawSt n (fun c => (c * 48271 + 11) % 2147483647) (fun c _ => c) c n).2.2
theorem isP_seat (c : Int) (n : Nat) : IsP n (seatN c n) := drawSt_perm _ _ _ _
theorem isP_far (c : Int) (n : Nat) : IsP n (farN c n) := drawSt_perm _ _ _ _
def sp_L_far (K : PySem.W.Frag) (g : Gd) : Sp := fun vs H Q _ => ∃ (c : Int) (n : Nat), vs = [.int c, .int (n : Int)] ∧ n ≤ 1000 ∧ NewT H (farN c n) Q
theorem len_L_far (K : PySem.W.Frag) (g : Gd) (vs : List V) (H : Hp) (Q : VK) (E : XK) (h : sp_L_far K g vs H Q E) : vs.length = 2 := by obtain ⟨_, _, rfl, _⟩ := h; rfl
abbrev N_L_far : List Str := ["cell", "size", "left", "row", "k"]
/-- _law_far -/
def t_L_far (K : PySem.W.Frag) (g : Gd) (E : XK) : TS :=
  (tSeq (tAsg (tLstRg (tRg1 (tVar 1))) (gName 2))
    (tSeq (tAsg (tLst tNil) (gName 3))
    (tSeq (tFor (iRng1 (tCons (tVar 1) tNil)) (gName 4) (tSeq (tAsg (tOp rModI (tOp rAddI (tOp rMulI (tVar 0) (tC (.int 48271))) (tC (.int 11))) (tC (.int 2147483647))) (gName 0))
    (tDrop (tBM K "list" rAppend (tVar 3) (tCons (tBM K "list" rPopAt (tVar 2) (tCons (tOp rModI (tVar 0) (tOp rSubI (tVar 1) (tVar 4))) tNil)) tNil)))))
    (tRet (tCB (rTupOf K) (tCons (tVar 3) tNil))))))
theorem pure_L_far {K : PySem.W.Frag} {g : Gd} (vs : List V) (H : Hp) (Q : VK) (E : XK) (h : sp_L_far K g vs H Q E) : Rd1 (t_L_far K g E) N_L_far vs H Q := by
  obtain ⟨c, n, rfl, hn, k⟩ := h
  unfold t_L_far
  walk_at "rd"
  refine ⟨rgOk_N (by omega), fun l hl => ?_⟩
  rw [rgV_N]
  have s1 : Same H (upd H l (.lst (vN (List.range n)))) := (Same.refl H).new hl
  walk_at "rd"
  refine ⟨zl (Nat.zero_le _), fun r hr => ?_⟩
  have hr0 := s1.free hr
  have s2 := s1.new (o := .lst []) hr
  have hlr : l ≠ r := ne_of_none upd_same hr
  walk_at "rd"
  refine w_for1 (by omega) (fun i σ H' => (∃ v, σ = [some (.int (drawSt n (fun c => (c * 48271 + 11) % 2147483647) (fun c _ => c) c i).1), some (.int (n : Int)), some (.ref l), some (.ref r), v]) ∧ Same H H' ∧
    H' l = some (.lst (vN (drawSt n (fun c => (c * 48271 + 11) % 2147483647) (fun c _ => c) c i).2.1)) ∧ H' r = some (.lst (vN (drawSt n (fun c => (c * 48271 + 11) % 2147483647) (fun c _ => c) c i).2.2))) ⟨⟨_, rfl⟩, s2, by rw [upd_ne hlr, upd_same] <;> rfl, upd_same⟩ ?_ ?_
  · rintro i σ H' hi ⟨⟨v, rfl⟩, s, hL, hR⟩
    have ok := drawSt_ok n (fun c => (c * 48271 + 11) % 2147483647) (fun c _ => c) c i (by omega)
    have hst := drawSt_succ n (fun c => (c * 48271 + 11) % 2147483647) (fun c _ => c) c i
    generalize drawSt n (fun c => (c * 48271 + 11) % 2147483647) (fun c _ => c) c i = st at ok hst hL hR ⊢
    obtain ⟨c1, left, row⟩ := st
    obtain ⟨o1, o2, _⟩ := ok
    dsimp only at o1 o2 hL hR ⊢
    rw [hst]
    have hm : (0 : Int) < (n : Int) - (i : Int) := by omega
    have b1 := Int.emod_nonneg ((c1 * 48271 + 11) % 2147483647) (Int.ne_of_gt hm)
    have b2 := Int.emod_lt_of_pos ((c1 * 48271 + 11) % 2147483647) hm
    walk_at "rd"
    refine mul_I (.inr ⟨by decide, by decide⟩) ?_
    walk_at "rd"
    refine mod_I (by decide) ?_
    walk_at "rd"
    refine ⟨isL (sqL hR), ?_⟩
    walk_at "rd"
    refine ⟨isL (sqL hL), ?_⟩
    walk_at "rd"
    refine mod_I hm ?_
    walk_at "rd"
    refine pop_N (i := (((c1 * 48271 + 11) % 2147483647) % ((n : Int) - (i : Int))).toNat) hL (by omega) (by omega) (by omega) ?_
    walk_at "rd"
    refine app_N (a := row) (by rw [upd_ne hlr.symm]; exact hR) (by omega) ?_
    refine ⟨⟨_, rfl⟩, (s.up hl).up hr0, ?_, upd_same⟩
    rw [upd_ne hlr, upd_same] <;> rfl
  · rintro σ H' ⟨⟨v, rfl⟩, s, hL, hR⟩
    walk_at "rd"
    exact tup_L (sqL hR) fun q hq => k q _ (s.new hq) (s.free hq) upd_same
def sp_L_same (K : PySem.W.Frag) (g : Gd) : Sp := fun vs H Q _ => ∃ (p q : Addr) (a b : List Nat), vs = [.ref p, .ref q] ∧ H p = some (.tup (vN a)) ∧ SqT K H q (vN b) ∧ Q (.bl (decide (a = b))) H
theorem len_L_same (K : PySem.W.Frag) (g : Gd) (vs : List V) (H : Hp) (Q : VK) (E : XK) (h : sp_L_same K g vs H Q E) : vs.length = 2 := by obtain ⟨_, _, _, _, rfl, _⟩ := h; rfl
abbrev N_L_same : List Str := ["found", "due", "x"]
/-- _law_same -/
def t_L_same (K : PySem.W.Frag) (g : Gd) (E : XK) : TS :=
  (tSeq (tIfS (tOr (tNot (tB (tCB (rIsi K) (tCons (tVar 0) (tCons (tC (.ty "tuple")) tNil))))) (tTest (tOp rNe (tCB (rLenQ K) (tCons (tVar 0) tNil)) (tCB (rLenQ K) (tCons (tVar 1) tNil))))) (tRet (tC (.bl false))) tNext)
    (tSeq (tFor (iTup K (tVar 0)) (gName 2) (tIfS (tNot (tB (tCallS (sp_L_whole K g) (fun _ => E0) (tCons (tVar 2) tNil)))) (tRet (tC (.bl false))) tNext))
    (tRet (tOp (rEqD K) (tVar 0) (tVar 1)))))
theorem pure_L_same {K : PySem.W.Frag} {g : Gd} (vs : List V) (H : Hp) (Q : VK) (E : XK) (h : sp_L_same K g vs H Q E) : Rd1 (t_L_same K g E) N_L_same vs H Q := by
  obtain ⟨p, q, a, b, rfl, hp, hq, k⟩ := h
  unfold t_L_same
  walk_at "rd"
  refine is_tup hp ?_
  walk_at "rd"
  refine if_nb (fun c => by cases c) (fun _ => ?_)
  walk_at "rd"
  refine len_TN (sqT hp) ?_
  walk_at "rd"
  refine len_TN hq ?_
  walk_at "rd"
  refine if_nd (fun c => ?_) (fun c => ?_)
  · walk_at "rd"
    rw [decide_eq_false (fun z => c (by rw [z]))] at k
    exact k
  walk_at "rd"
  refine ⟨p, rfl, ⟨_, sqT hp⟩, for_tup (K := K) (a := p) (xs := vN a) (fun i σ H' => (∃ v, σ = [some (.ref p), some (.ref q), v]) ∧ H' = H) ⟨⟨_, rfl⟩, rfl⟩ (fun i σ H' _ s => by rw [s.2]; exact sqT hp) ?_ ?_⟩
  · rintro i x σ H' hi ⟨⟨v, rfl⟩, rfl⟩
    obtain ⟨m, _, rfl⟩ := vN_get hi
    refine (?_ : (tIfS _ _ _) _ _ _)
    walk_at "rd"
    refine ⟨_, rfl, ?_⟩
    walk_at "rd"
    exact if_nb (fun c => by cases c) (fun _ => ⟨⟨_, rfl⟩, rfl⟩)
  · rintro σ H' ⟨⟨v, rfl⟩, rfl⟩
    walk_at "rd"
    exact eq_TN (sqT hp) hq k
end Shf

/-! law k01 -/
namespace Shf
open PySem L2
theorem size16 (z : Int) : ∃ n : Nat, 1 + z % 16 = (n : Int) ∧ 1 ≤ n ∧ n ≤ 16 := by
  have a := Int.emod_nonneg z (b := 16) (by decide)
  have b := Int.emod_lt_of_pos z (b := 16) (by decide)
  exact ⟨(1 + z % 16).toNat, by omega, by omega, by omega⟩
end Shf

/-! laws k03, k04: what is refused -/
namespace Shf
open PySem L2
section
variable {K : PySem.W.Frag} {H : Hp} {Q : VK} {p q : Addr}
theorem is_E {D C a : Addr} {b : Bool} (x : ExcC K D) (h : PySem.W.kitOne K (.ref D) (.ref C) = some b) (k : Q (.bl b) H) : rIsE2 K (.ref D) none a [.ref a, .ref C] H Q := ⟨D, rfl, rfl, x, .ref C, .ref C, b, rfl, fun _ r => r, h, k⟩
theorem is_ET {D a : Addr} {T : String} {b : Bool} (x : ExcC K D) (h : PySem.W.kitOne K (.ref D) (.type T) = some b) (k : Q (.bl b) H) : rIsE2 K (.ref D) none a [.ref a, .ty T] H Q := ⟨D, rfl, rfl, x, .ty T, .type T, b, rfl, fun _ r => r, h, k⟩
abbrev vB (a : List Bool) : List V := a.map V.bl
def dB (a : List Bool) : PyData := .tuple (a.map PyData.bool)
theorem dpAll_B : ∀ (a : List Bool), DpAll K H (vB a) (a.map PyData.bool)
  | [] => .nil
  | x :: r => .cons (.bl x) (dpAll_B r)
theorem eqv_bool (x y : Bool) : PyData.eqv (.bool x) (.bool y) = decide (x = y) := by
  unfold PyData.eqv
  cases x <;> cases y <;> rfl
theorem eqv_B (a b : List Bool) : PyData.eqv (dB a) (dB b) = decide (a = b) := by
  unfold dB PyData.eqv
  exact eqvAll_map eqv_bool a b
theorem shp_B (a : List Bool) : SeqAt.shaped (dB a) = true := by
  refine shp ?_ ?_
  · unfold dB PyData.canLay0
    exact canAll_map (fun x => by simp [PyData.canLay0]) a
  · unfold dB PyData.depth
    have := depthAll_map (f := PyData.bool) (n := 0) (fun x => by simp [PyData.depth]) a
    omega
theorem eq_TB {a b : List Bool} (ha : SqT K H p (vB a)) (hb : SqT K H q (vB b)) (k : Q (.bl (decide (a = b))) H) : rEqD K (.ref p) (.ref q) H Q := ⟨dB a, dB b, .tup ha (dpAll_B a), .tup hb (dpAll_B b), shp_B a, shp_B b, by rw [eqv_B]; exact k⟩
theorem ne_TB {a b : List Bool} (ha : SqT K H p (vB a)) (hb : SqT K H q (vB b)) (k : Q (.bl (!decide (a = b))) H) : rNeD K (.ref p) (.ref q) H Q := ⟨dB a, dB b, .tup ha (dpAll_B a), .tup hb (dpAll_B b), shp_B a, shp_B b, by rw [eqv_B]; exact k⟩
end
end Shf

/-! rings of a seating: mathematics, rings, even; the laws' rings -/
namespace Shf
open PySem L2
/-! ### steps of a seating from a seat -/
def itr (a : List Nat) : Nat → Nat → Nat
  | 0, x => x
  | j + 1, x => a.getD (itr a j x) 0
section
variable {n : Nat} {a : List Nat}
theorem itr_lt (h : IsP n a) {x : Nat} (hx : x < n) : ∀ j, itr a j x < n
  | 0 => hx
  | j + 1 => h.getD_lt (itr_lt h hx j)
theorem itr_add (a : List Nat) (x : Nat) (j : Nat) : ∀ i, itr a (i + j) x = itr a i (itr a j x)
  | 0 => by rw [Nat.zero_add] <;> rfl
  | i + 1 => by
    rw [Nat.add_right_comm]
    show a.getD (itr a (i + j) x) 0 = a.getD (itr a i (itr a j x)) 0
    rw [itr_add a x j i]
theorem itr_inj (h : IsP n a) {x y : Nat} (hx : x < n) (hy : y < n) : ∀ j, itr a j x = itr a j y → x = y
  | 0, e => e
  | j + 1, e => by
    refine itr_inj h hx hy j ?_
    exact nd_getD h.nd (by rw [h.len]; exact itr_lt h hx j) (by rw [h.len]; exact itr_lt h hy j) e
theorem itr_back (h : IsP n a) {k : Nat} (hk : k < n) {i j : Nat} (hij : i ≤ j) (e : itr a i k = itr a j k) : itr a (j - i) k = k := by
  have e1 : itr a j k = itr a i (itr a (j - i) k) := by
    rw [← itr_add, Nat.add_comm, Nat.sub_add_cancel hij]
  rw [e1] at e
  exact (itr_inj h hk (itr_lt h hk _) i e).symm
theorem itr_ret (h : IsP n a) {k : Nat} (hk : k < n) : ∃ p, 1 ≤ p ∧ p ≤ n ∧ itr a p k = k := by
  refine Classical.byContradiction fun no => ?_
  have nd : ((List.range (n + 1)).map fun j => itr a j k).Nodup := by
    refine nd_of_getD fun i j hi hj e => ?_
    rw [List.length_map, List.length_range] at hi hj
    have g : ∀ i, i < n + 1 → ((List.range (n + 1)).map fun j => itr a j k).getD i 0 = itr a i k := fun i hi => by
      rw [List.getD_eq_getElem?_getD, List.getElem?_map, List.getElem?_range hi] <;> rfl
    rw [g i hi, g j hj] at e
    refine Decidable.byContradiction fun ne => ?_
    rcases Nat.lt_or_gt_of_ne ne with l | l
    · exact no ⟨j - i, by omega, by omega, itr_back h hk (Nat.le_of_lt l) e⟩
    · exact no ⟨i - j, by omega, by omega, itr_back h hk (Nat.le_of_lt l) e.symm⟩
  have hl := nd_sub_len (m := List.range n) nd fun x hx => by
    obtain ⟨j, _, rfl⟩ := List.mem_map.mp hx
    exact List.mem_range.mpr (itr_lt h hk j)
  rw [List.length_map, List.length_range, List.length_range] at hl
  omega
/-- the least number of steps, from j on, that comes back to k -/
def perF (a : List Nat) (k : Nat) : Nat → Nat → Nat
  | 0, j => j
  | f + 1, j => if itr a j k = k then j else perF a k f (j + 1)
theorem perF_spec (a : List Nat) (k : Nat) : ∀ f j p, j ≤ p → p ≤ j + f → itr a p k = k → itr a (perF a k f j) k = k ∧ j ≤ perF a k f j ∧ (∀ q, j ≤ q → q < perF a k f j → itr a q k ≠ k) ∧ perF a k f j ≤ p
  | 0, j, p, h1, h2, e => by
    have : p = j := by omega
    subst this
    exact ⟨e, Nat.le_refl _, fun q a b => absurd b (Nat.not_lt.mpr a), Nat.le_refl _⟩
  | f + 1, j, p, h1, h2, e => by
    unfold perF
    by_cases c : itr a j k = k
    · rw [if_pos c]
      exact ⟨c, Nat.le_refl _, fun q a b => absurd b (Nat.not_lt.mpr a), h1⟩
    · rw [if_neg c]
      have hne : p ≠ j := fun z => c (z ▸ e)
      obtain ⟨g1, g2, g3, g4⟩ := perF_spec a k f (j + 1) p (by omega) (by omega) e
      refine ⟨g1, by omega, fun q hq hl => ?_, g4⟩
      by_cases z : q = j
      · rw [z]; exact c
      · exact g3 q (by omega) hl
def per (a : List Nat) (k : Nat) : Nat := perF a k a.length 1
theorem per_spec (h : IsP n a) {k : Nat} (hk : k < n) : itr a (per a k) k = k ∧ 1 ≤ per a k ∧ (∀ q, 1 ≤ q → q < per a k → itr a q k ≠ k) ∧ per a k ≤ n := by
  obtain ⟨p, h1, h2, e⟩ := itr_ret h hk
  obtain ⟨g1, g2, g3, g4⟩ := perF_spec a k a.length 1 p h1 (by rw [h.len]; omega) e
  exact ⟨g1, g2, g3, Nat.le_trans g4 h2⟩
/-- the ring of a seat, from it on -/
def ring (a : List Nat) (k : Nat) : List Nat := (List.range (per a k)).map fun j => itr a j k
theorem ring_len (a : List Nat) (k : Nat) : (ring a k).length = per a k := by unfold ring; rw [List.length_map, List.length_range]
theorem itr_mul (h : IsP n a) {k : Nat} (hk : k < n) : ∀ m, itr a (m * per a k) k = k
  | 0 => by rw [Nat.zero_mul] <;> rfl
  | m + 1 => by rw [Nat.succ_mul, itr_add, (per_spec h hk).1, itr_mul h hk m]
theorem mem_ring (h : IsP n a) {k : Nat} (hk : k < n) (j : Nat) : itr a j k ∈ ring a k := by
  have hp := (per_spec h hk).2.1
  have e : itr a j k = itr a (j % per a k) k := by
    conv => lhs; rw [← Nat.div_add_mod j (per a k), Nat.add_comm, itr_add, Nat.mul_comm, itr_mul h hk]
  rw [e]
  exact List.mem_map.mpr ⟨j % per a k, List.mem_range.mpr (Nat.mod_lt _ hp), rfl⟩
theorem ring_mem {k x : Nat} (h : x ∈ ring a k) : ∃ j, j < per a k ∧ itr a j k = x := by
  obtain ⟨j, hj, e⟩ := List.mem_map.mp h
  exact ⟨j, List.mem_range.mp hj, e⟩
theorem ring_lt (h : IsP n a) {k x : Nat} (hk : k < n) (hx : x ∈ ring a k) : x < n := by
  obtain ⟨j, _, rfl⟩ := ring_mem hx
  exact itr_lt h hk j
theorem ring_self (h : IsP n a) {k : Nat} (hk : k < n) : k ∈ ring a k := mem_ring h hk 0
theorem ring_symm (h : IsP n a) {k x : Nat} (hk : k < n) (hx : x ∈ ring a k) : k ∈ ring a x := by
  obtain ⟨j, hj, rfl⟩ := ring_mem hx
  have e : itr a (per a k - j) (itr a j k) = k := by rw [← itr_add, Nat.sub_add_cancel (Nat.le_of_lt hj)]; exact (per_spec h hk).1
  have := mem_ring h (itr_lt h hk j) (per a k - j)
  rw [e] at this
  exact this
theorem ring_trans (h : IsP n a) {k x y : Nat} (hk : k < n) (hx : x ∈ ring a k) (hy : y ∈ ring a x) : y ∈ ring a k := by
  obtain ⟨j, _, rfl⟩ := ring_mem hx
  obtain ⟨i, _, rfl⟩ := ring_mem hy
  rw [← itr_add]
  exact mem_ring h hk _
theorem ring_nd (h : IsP n a) {k : Nat} (hk : k < n) : (ring a k).Nodup := by
  obtain ⟨_, h1, h2, _⟩ := per_spec h hk
  refine nd_of_getD fun i j hi hj e => ?_
  rw [ring_len] at hi hj
  have g : ∀ i, i < per a k → (ring a k).getD i 0 = itr a i k := fun i hi => by
    unfold ring
    rw [List.getD_eq_getElem?_getD, List.getElem?_map, List.getElem?_range hi] <;> rfl
  rw [g i hi, g j hj] at e
  refine Decidable.byContradiction fun ne => ?_
  rcases Nat.lt_or_gt_of_ne ne with l | l
  · exact h2 (j - i) (by omega) (by omega) (itr_back h hk (Nat.le_of_lt l) e)
  · exact h2 (i - j) (by omega) (by omega) (itr_back h hk (Nat.le_of_lt l) e.symm)
/-- k is the least of its ring -/
def isMin (a : List Nat) (k : Nat) : Bool := (ring a k).all fun x => decide (k ≤ x)
theorem isMin_iff {k : Nat} : isMin a k = true ↔ ∀ x ∈ ring a k, k ≤ x := by
  unfold isMin
  rw [List.all_eq_true]
  exact ⟨fun h x hx => of_decide_eq_true (h x hx), fun h x hx => decide_eq_true (h x hx)⟩
/-- a list of numbers has a least -/
theorem least_of : ∀ (l : List Nat), l ≠ [] → ∃ m ∈ l, ∀ x ∈ l, m ≤ x
  | [], h => absurd rfl h
  | [x], _ => ⟨x, List.mem_singleton.mpr rfl, fun y hy => by rw [List.mem_singleton.mp hy]; exact Nat.le_refl _⟩
  | x :: y :: r, _ => by
    obtain ⟨m, hm, hl⟩ := least_of (y :: r) (by simp)
    by_cases c : x ≤ m
    · exact ⟨x, List.mem_cons_self, fun z hz => by
        rcases List.mem_cons.mp hz with e | hz
        · rw [e]; exact Nat.le_refl _
        · exact Nat.le_trans c (hl z hz)⟩
    · exact ⟨m, List.mem_cons_of_mem _ hm, fun z hz => by
        rcases List.mem_cons.mp hz with e | hz
        · rw [e]; omega
        · exact hl z hz⟩
/-- some ring that starts below k holds k beyond its start: just where k is not the least of its own -/
def SeenP (a : List Nat) (k x : Nat) : Prop := ∃ q, q < k ∧ isMin a q = true ∧ x ∈ ring a q ∧ x ≠ q
theorem seen_iff (h : IsP n a) {k : Nat} (hk : k < n) : SeenP a k k ↔ isMin a k = false := by
  constructor
  · rintro ⟨q, hq, _, hx, _⟩
    refine Bool.eq_false_iff.mpr fun z => ?_
    have := isMin_iff.mp z q (ring_symm h (by omega) hx)
    omega
  · intro z
    obtain ⟨m, hm, hl⟩ := least_of (ring a k) (fun e => by have := ring_self h hk; rw [e] at this; cases this)
    have hmn := ring_lt h hk hm
    have hmk : m ≠ k := fun e => by
      have : isMin a k = true := isMin_iff.mpr (fun x hx => by rw [← e]; exact hl x hx)
      rw [this] at z; cases z
    have hle := hl k (ring_self h hk)
    refine ⟨m, by omega, isMin_iff.mpr fun x hx => hl x (ring_trans h hk hm hx), ring_symm h hk hm, fun e => hmk e.symm⟩
/-- the rings of two seats or more whose first seats lie below m -/
def ringsK (a : List Nat) (m : Nat) : List (List Nat) := ((List.range m).filter fun k => isMin a k && decide (1 < per a k)).map (ring a)
def ringsN (a : List Nat) : List (List Nat) := ringsK a a.length
theorem ringsK_succ (a : List Nat) (m : Nat) : ringsK a (m + 1) = ringsK a m ++ (if isMin a m && decide (1 < per a m) then [ring a m] else []) := by
  unfold ringsK
  rw [List.range_succ, List.filter_append, List.map_append]
  congr 1
  by_cases c : (isMin a m && decide (1 < per a m)) = true
  · rw [List.filter_cons, if_pos c, if_pos c] <;> rfl
  · rw [List.filter_cons, if_neg c, if_neg c] <;> rfl
theorem ringsK_len (a : List Nat) : ∀ m, (ringsK a m).length ≤ m
  | m => by
    unfold ringsK
    rw [List.length_map]
    have := List.length_filter_le (fun k => isMin a k && decide (1 < per a k)) (List.range m)
    rw [List.length_range] at this
    exact this
end
/-! ### a list of tuples of numbers -/
inductive LT (H : Hp) : List V → List (List Nat) → Prop
  | nil : LT H [] []
  | cons {p : Addr} {a : List Nat} {vs : List V} {as : List (List Nat)} : H p = some (.tup (vN a)) → LT H vs as → LT H (.ref p :: vs) (a :: as)
theorem LT.mono {H H' : Hp} (s : Same H H') {vs : List V} {as : List (List Nat)} (h : LT H vs as) : LT H' vs as := by
  induction h with
  | nil => exact .nil
  | cons h _ ih => exact .cons (s _ _ h) ih
theorem LT.snoc {H : Hp} {p : Addr} {a : List Nat} (hp : H p = some (.tup (vN a))) {vs : List V} {as : List (List Nat)} (h : LT H vs as) : LT H (vs ++ [.ref p]) (as ++ [a]) := by
  induction h with
  | nil => exact .cons hp .nil
  | cons h _ ih => exact .cons h ih
theorem LT.len {H : Hp} {vs : List V} {as : List (List Nat)} (h : LT H vs as) : vs.length = as.length := by
  induction h with
  | nil => rfl
  | cons _ _ ih => simp [ih]
theorem LT.get {H : Hp} {vs : List V} {as : List (List Nat)} (h : LT H vs as) : ∀ {i : Nat} {a : List Nat}, as[i]? = some a → ∃ p, vs[i]? = some (.ref p) ∧ H p = some (.tup (vN a)) := by
  induction h with
  | nil => intro i a e; simp at e
  | cons h _ ih =>
    intro i a e
    cases i with
    | zero => cases e; exact ⟨_, rfl, h⟩
    | succ i => exact ih (by simpa using e)
theorem LT.get' {H : Hp} {vs : List V} {as : List (List Nat)} (h : LT H vs as) : ∀ {i : Nat} {v : V}, vs[i]? = some v → ∃ p a, v = .ref p ∧ as[i]? = some a ∧ H p = some (.tup (vN a)) := by
  induction h with
  | nil => intro i a e; simp at e
  | cons h _ ih =>
    intro i a e
    cases i with
    | zero => cases e; exact ⟨_, _, rfl, rfl, h⟩
    | succ i => exact ih (by simpa using e)
theorem upd_list_same {H H' : Hp} {p : Addr} {o : HO} (s : Same H H') (h : H p = none) : Same H (upd H' p o) := s.up h
/-- what changes is no tuple: the tuples stand -/
theorem LT.upL {H : Hp} {l : Addr} {xs : List V} {o : HO} (hl : H l = some (.lst xs)) {vs : List V} {as : List (List Nat)} (h : LT H vs as) : LT (L2.upd H l o) vs as := by
  induction h with
  | nil => exact .nil
  | cons h _ ih => exact .cons (by rw [upd_ne (ne_of h hl (by intro z; cases z))]; exact h) ih
theorem LT.updD {H : Hp} {l : Addr} {xs : List (Key × V)} {o : HO} (hl : H l = some (.dK xs)) {vs : List V} {as : List (List Nat)} (h : LT H vs as) : LT (L2.upd H l o) vs as := by
  induction h with
  | nil => exact .nil
  | cons h _ ih => exact .cons (by rw [upd_ne (ne_of h hl (by intro z; cases z))]; exact h) ih
/-- a new list of tuples is handed back -/
def NewLT (H : Hp) (as : List (List Nat)) (Q : VK) : Prop := ∀ (r : Addr) (H' : Hp) (vs : List V), Same H H' → H r = none → H' r = some (.lst vs) → LT H' vs as → Q (.ref r) H'
theorem w_while {c : TT} {tb : TS} {D : Ends} {σ : L2.St} {H : Hp} (h : ∃ W : Nat → L2.St → Hp → Prop, (∃ m, W m σ H) ∧ ∀ m σ H, W m σ H →
  c σ H fun b H1 => if b = true then ∃ N : L2.St → Hp → Prop, (∀ σ' H', N σ' H' → ∃ m', m' < m ∧ W m' σ' H') ∧ tb { D with nx := N, ct := N, bk := D.nx } σ H1 else D.nx σ H1) : tWhile c tb D σ H := h
theorem w_dnew {σ : L2.St} {H : Hp} {Q : VK} (h : ∀ p, H p = none → Q (.ref p) (upd H p (.dK []))) : tDNewK σ H Q := h
theorem w_dput {td ty tv : TE} {D : Ends} {σ : L2.St} {H : Hp} (h : tv σ H fun v H1 => td σ H1 fun x H2 => ty σ H2 fun y H3 => ∃ a H4, x = .ref a ∧ DPut H3 a y v H4 ∧ D.nx σ H4) : sDPut td ty tv D σ H := h
theorem w_dnotin {td ty : TE} {σ : L2.St} {H : Hp} {Q : VK} (h : ty σ H fun y H1 => td σ H1 fun x H2 => ∃ a o, x = .ref a ∧ DGet H2 a y o ∧ Q (.bl (!o.isSome)) H2) : tDNotIn ty td σ H Q := h
/-- the keys of a dict of numbers -/
def DK (kvs : List (Key × V)) (S : Nat → Prop) : Prop := ∀ x : Nat, (valV kvs (Sum.inl (x : Int) : Key)).isSome = true ↔ S x
theorem DK.nil : DK [] (fun _ => False) := fun x => by simp [valV]
theorem DK.put {kvs : List (Key × V)} {S : Nat → Prop} (h : DK kvs S) (x : Nat) (v : V) : DK (putK kvs (Sum.inl (x : Int)) v) (fun y => S y ∨ y = x) := fun y => by
  rw [valV_put]
  by_cases e : y = x
  · subst e
    rw [if_pos rfl]
    exact ⟨fun _ => .inr rfl, fun _ => rfl⟩
  · rw [if_neg (fun z => e (by have := Sum.inl.inj z; omega))]
    rw [h y]
    exact ⟨fun z => .inl z, fun z => z.resolve_right e⟩
theorem DK.cong {kvs : List (Key × V)} {S S' : Nat → Prop} (h : DK kvs S) (e : ∀ x, S x ↔ S' x) : DK kvs S' := fun x => (h x).trans (e x)
theorem putK_le (c : List (Key × V)) (k : Key) (x : V) : (putK c k x).length ≤ c.length + 1 := by
  unfold putK
  split
  · rw [List.length_map]; omega
  · rw [List.length_append]; exact Nat.le_refl _
section
variable {K : PySem.W.Frag} {H : Hp} {Q : VK} {p : Addr}
theorem ix_last {a : List Nat} {x : Nat} {z : Int} (h : SqL K H p (vN (a ++ [x]))) (e : z = -1) (q : Q (.int (x : Int)) H) : rIxL K (.ref p) (.int z) H Q := by
  subst e
  rw [← vN_app] at h
  exact ⟨p, _, _, _, rfl, rfl, h, atI_last _ _, q⟩
theorem min_N {a : List Nat} (h : SqL K H p (vN a)) (h0 : 0 < a.length) (q : ∀ m, m ∈ a → (∀ y ∈ a, m ≤ y) → Q (.int (m : Int)) H) : rMin K [.ref p] H Q := by
  rw [vN_eq] at h
  refine ⟨p, _, rfl, h, by rw [List.length_map]; exact h0, fun m hm hl => ?_⟩
  obtain ⟨m', hm', rfl⟩ := List.mem_map.mp hm
  refine q m' hm' fun y hy => ?_
  have := hl _ (List.mem_map.mpr ⟨y, hy, rfl⟩)
  omega
end
theorem isMin_eq {n : Nat} {a : List Nat} (h : IsP n a) {k m : Nat} (hk : k < n) (hm : m ∈ ring a k) (hl : ∀ y ∈ ring a k, m ≤ y) : isMin a k = decide ((m : Int) = (k : Int)) := by
  have := hl k (ring_self h hk)
  by_cases c : m = k
  · rw [decide_eq_true (by omega)]
    exact isMin_iff.mpr (by rw [← c]; rw [← c] at hl; exact hl)
  · rw [decide_eq_false (by omega)]
    refine Bool.eq_false_iff.mpr fun z => ?_
    have := isMin_iff.mp z m hm
    omega
end Shf

/-! an exception out of a list comprehension -/
namespace Shf
open PySem L2
section
open PyProof.Rows
/-- an exception out of a call in a comprehension's element: noted, the block let go, and on its way in the def's own frame -/
theorem comp_flew {X : Cx} {pins : List (Addr × Obj)} {σ : L2.St} {H : Hp} {s : Shared} {W : WX} {E : XK} {u : Value} {s' : Shared} {ce : Env} {use : Option (Value → Sem Unit)} {Qf : Value → Shared → Prop} {acc : Value}
    (hs : X.stack = X.env :: X.outer) (hf : X.env.frame = some X.env.locals) (hcf : ce.frame = X.env.frame) (tk : Takes X W) (I : Inv X pins σ H s) (fC : FpOk X pins H ce.locals) {m : Str → Option Value} (hn : s.heap.Ns ce.locals m)
    (hW : ∀ cls d H', E cls d H' → W cls d σ H') (c : L2.CX X.prog X.w X.stack H s E u s') :
    notedBy (model X.prog X.w) X.A ce (fun e z => compEnds (model X.prog X.w) X.A X.xe use Qf acc ce (.error e) z) u s' := by
  obtain ⟨a, B, H', cls, d, rfl, fl, hok, ub, na, os, ag, hE⟩ := c
  have hfr : X.A.frames = some (X.env :: X.outer) := by rw [I.ok.frames, hs]
  have nCs : ce.locals ∉ frs X.stack := fun z => by
    rcases List.mem_cons.mp (I.stkSub _ z) with e | e
    · exact fC.2.1 e
    · exact fC.2.2.1 e
  obtain ⟨oC, es, ep, hoC, hdC, hkC⟩ := hn
  have bC : B.get? ce.locals = some oC := ub.keep _ _ hoC fC.1 nCs
  have hC' : H' ce.locals = none := ub.free _ _ hoC fC.1
  have fl' : HandSPX.FlyingZ B (X.env :: X.outer) a (Zc cls d) s'.heap := by rw [← hs]; exact fl
  show wpAny _ _ (noteFrame (.ref a) ce) _ _ s'
  rw [noteFrame_env _ hcf]
  refine HandSPX.looks_onZ Zc.steady hfr hf fl' fun h1 hh1 up1 => ?_
  show CompFails _ _ _ ce _ _
  have hC1 : h1.get? ce.locals = some oC := hh1.1 _ _ bC
  refine ⟨m, ⟨oC, es, ep, hC1, hdC, hkC⟩, fun h2 m2 hn2 sb => ?_⟩
  obtain ⟨G, g1, g2⟩ := restrict B fun b => !decide (b = ce.locals)
  have gC : G.get? ce.locals = none := g2 _ (by simp)
  have gB : ∀ b o, G.get? b = some o → B.get? b = some o ∧ b ≠ ce.locals := fun b o e => by
    have hb : b ≠ ce.locals := fun z => by rw [z, gC] at e; cases e
    rw [g1 b (by simp [hb])] at e
    exact ⟨e, hb⟩
  have bG : ∀ b o, B.get? b = some o → b ≠ ce.locals → G.get? b = some o := fun b o e hb => by rw [g1 b (by simp [hb])]; exact e
  have nG : ∀ b, B.get? b = none → G.get? b = none := fun b e => by
    cases q : G.get? b with
    | none => rfl
    | some o => rw [(gB b o q).1] at e; cases e
  have same12 : ∀ b, b ≠ ce.locals → h2.get? b = h1.get? b := fun b hb => sb.2 b hb
  have up2 : ∀ b o, b ≠ ce.locals → s'.heap.get? b = some o → (∀ vs, o.data ≠ .fields vs) → ∃ sl, h2.get? b = some { o with slots := sl } := fun b o hb e hd => by
    obtain ⟨sl, q⟩ := up1 b o e hd
    exact ⟨sl, (same12 b hb).trans q⟩
  obtain ⟨k1, k2, k3, oe, vs, T, oT, ts, he, hz, hd, e1, hnT, hTe, hT, hdT, e3⟩ := hh1
  have haC : a ≠ ce.locals := fun z => by rw [z, hC1] at he; cases he; rw [hdC] at hd; cases hd
  have hTC : T ≠ ce.locals := fun z => by rw [z, hC1] at hT; cases hT; rw [hdC] at hdT; cases hdT
  have he2 : h2.get? a = some oe := (same12 a haC).trans he
  have hh2 : HandSPX.HeldZ G (X.env :: X.outer) a (Zc cls d) X.env.locals h2 := by
    have f2 : h2.FunFrames B (X.env :: X.outer) := Heap.FunFrames.sameBut sb hn2 k3
    refine ⟨fun b o e => ?_, nG a k2, funFrames_none f2 fun L hL => nG L (f2.mem hL).1, oe, vs, T, oT, ts, he2, hz, hd, e1, nG T hnT, hTe, (same12 T hTC).trans hT, hdT, e3⟩
    obtain ⟨q1, q2⟩ := gB b o e
    exact (same12 b q2).trans (k1 b o q1)
  unfold PySem.passOn
  refine wpAny_bind (wpAny_field (s := { s' with heap := h2 }) he2 hd e1 ?_)
  rw [if_neg (show ¬ ((Value.ref T == Value.none) = true) from by simp), hcf, hf]
  refine wpAny_bind (HandSPX.setFlight_onZ (s := { s' with heap := h2 }) hh2 fun h3 hh3 up3 => ?_)
  refine wpAny_throw ?_
  obtain ⟨Y, y1, y2⟩ := restrict h3 fun b => (G.get? b).isSome || decide (b ∈ frs X.stack)
  have yG : ∀ b o, G.get? b = some o → Y.get? b = some o := fun b o e => by
    rw [y1 b (by simp [e])]
    exact hh3.1 b o e
  have yF : ∀ b, b ∈ frs X.stack → Y.get? b = h3.get? b := fun b hb => y1 b (by simp [hb])
  have oY : ∀ b o, Y.get? b = some o → h3.get? b = some o ∧ ((G.get? b).isSome = true ∨ b ∈ frs X.stack) := fun b o e => by
    cases q : ((G.get? b).isSome || decide (b ∈ frs X.stack)) with
    | false => rw [y2 b q] at e; cases e
    | true =>
      rw [y1 b q] at e
      exact ⟨e, by simpa [Bool.or_eq_true] using q⟩
  have slots : ∀ b o, s.heap.get? b = some o → b ∈ frs X.stack → ∃ sl, Y.get? b = some { o with slots := sl } := fun b o e hb => by
    obtain ⟨sl, q⟩ := ub.slot b o e hb
    obtain ⟨_, o', eo, hdf⟩ := I.stack.mem hb
    rw [e] at eo; cases eo
    have hbC : b ≠ ce.locals := fun z => nCs (by rw [← z]; exact hb)
    obtain ⟨sl2, q2⟩ := up2 b _ hbC q hdf
    obtain ⟨sl3, q3⟩ := up3 b _ q2 hdf
    exact ⟨sl3, by rw [yF b hb]; exact q3⟩
  have hokY : HOk X.prog X.w H' Y := fun b o q => (hok b o q).stay (fun c v hc r => yG c v (bG c v r fun z => by
    rcases hc with hc | hc
    · rw [← hc, z, hC'] at q; cases q
    · rw [z, hC'] at hc; cases hc)) (fun _ r => r) fun _ _ r => r
  have J : Inv X pins σ H' { s with heap := Y, gens := s'.gens, drawn := s'.drawn, toks := s'.toks } :=
    I.call (ch := [ce.locals]) ⟨fun b o e n hb hc => yG b o (bG b o (ub.keep b o e n hb) fun z => hc (by simp [z])), fun b o e n hb _ => slots b o e hb, fun b o e n _ => ub.free b o e n, fun b o e hc => by
      by_cases hb : b ∈ frs X.stack
      · obtain ⟨sl, q⟩ := slots b o e hb
        exact ⟨_, q⟩
      · obtain ⟨o', q⟩ := ub.there b o e hb
        exact ⟨o', yG b o' (bG b o' q fun z => hc (by simp [z]))⟩, ub.tups, ub.frzs, ub.tbls⟩ hokY ag fun b hb => by
      have e : b = ce.locals := by simpa using hb
      subst e
      exact ⟨fC.2.2.2.1, fC.2.1, fC.2.2.2.2.1, fC.2.2.2.2.2⟩
  refine tk _ _ ⟨a, G, _, pins, σ, H', cls, d, rfl, J, fun b o e hb => ?_, Heap.UpToSlots.of_keeps fun b o e => (oY b o e).1, .inr (.inr (by rw [hs]; exact hh3)), na, os, ag, hW _ _ _ hE⟩
  obtain ⟨q1, q2⟩ := oY b o e
  rcases q2 with q2 | q2
  · obtain ⟨o', q⟩ := Option.isSome_iff_exists.mp q2
    have z := hh3.1 b o' q
    rw [q1] at z; cases z
    exact q
  · exact absurd q2 hb

section
variable {X : Cx} {elt tg iter : Expr} {ifs : List Expr} {scope : Scope} {own : List (Str × Nat)} {pos spos : Pos} {wi : TI} {g : TG} {tt : TT} {te : TE} {E : XK}
theorem ends_of_post {M : Model} {A : Around} {xe : Value → Shared → Prop} {use : Option (Value → Sem Unit)} {Qf : Value → Shared → Prop} {acc : Value} {ce : Env} {f : Flow} {s : Shared} (h : compPost M A xe use Qf acc ce.locals (.ok f) s) : compEnds M A xe use Qf acc ce (.ok f) s := by
  cases use <;> exact h
/-- a list comprehension whose element may raise what the def is wished to let out -/
theorem lcX {pins : List (Addr × Obj)} {s : Shared} {σ : L2.St} {H : Hp} {Q : VK} {pos' : Pos} {use : Option (Value → Sem Unit)} {Qf : Value → Shared → Prop}
    (hc : X.calm = true) (hN : X.N.Nodup) (hst : X.stack = X.env :: X.outer) (hfr : X.env.frame = some X.env.locals) (tk : Takes X (wE E)) (I : Inv X pins σ H s) (hi : PI X tg iter wi) (ok : BlkOk X.N X.env.scope scope own)
    (hg : ∀ (s : Shared) (H : Hp) (C : Addr) (cl : List (Str × Addr)) (fp : List Addr), PG (X.blk s H scope (compEnvC scope cl C X.env) fp) tg g) (ht : ∀ (s : Shared) (H : Hp) (C : Addr) (cl : List (Str × Addr)) (fp : List Addr), PTs (X.blk s H scope (compEnvC scope cl C X.env) fp) ifs tt)
    (he : ∀ (s : Shared) (H : Hp) (C : Addr) (cl : List (Str × Addr)) (fp : List Addr) (xe : Value → Shared → Prop), (∀ σ, PassesAt (L2.CX X.prog X.w) ((X.blk s H scope (compEnvC scope cl C X.env) fp).wish xe) σ E) → PE ((X.blk s H scope (compEnvC scope cl C X.env) fp).wish xe) elt te)
    (hs : ∀ x, foldedSetIterable iter X.env x = pure x) (h : tLc wi g tt te (own.map (·.2)) σ H Q)
    (hRR : ∀ D C s' m H', Inv X pins σ H' s' → Q (.ref D) H' → s'.heap.Ns C m → FpOk X pins H' C → compPost (model X.prog X.w) X.A X.xe use Qf (.ref D) C (.ok .next) s') :
    wpAny (model X.prog X.w) X.A (comprehension (.ListComp elt [⟨tg, iter, ifs, 0⟩] scope pos) scope X.env pos' (newList []) false (eval iter X.env) use) Qf X.xe s := by
  have caught : ∀ y ∈ scope.names, y.2 = .free → ∃ c, X.env.cells.lookup y.1 = some c := fun y hy e => I.ok.has _ ((ok.free y hy e).imp id id)
  refine comprehension_at (use := use) rfl hs (closure_ok caught) ok.kind (fun y hy e => by rw [ok.uniq y hy, e]) (thn (hi.run pins s σ H _ I h) fun xv s1 hx => thn hx fun itv s2 h2 => ?_)
  obtain ⟨it, fp, tn, J, H2, rfl, I2, T, st2, f2, q⟩ := h2
  refine wpAny_newObj_type (newEnv_comp ?_) (by show 0 ≤ sizeLine; decide)
  generalize eD : s2.heap.objs.size = D
  have fresh2 : H2 D = none := I2.hok.fresh (Nat.le_of_eq eD)
  obtain ⟨W, ⟨m0, w0⟩, turn⟩ := q D fresh2
  generalize e3 : ({ s2 with heap := s2.heap.push { cls := .type "list", data := .seq ([] : List Value).toArray } } : Shared) = s3
  have h3 : s3.heap = s2.heap.push { cls := .type "list", data := .seq ([] : List Value).toArray } := by rw [← e3]
  have I3 : Inv X pins σ (upd H2 D (.lst [])) s3 := by
    rw [← e3]
    refine I2.laid (t' := s2.toks) (fun b o e => Heap.get?_push_of_some _ e) (Nat.le_of_eq eD) ⟨Nat.zero_le _, [], 0, .nil, ?_⟩
    rw [← eD]; exact Heap.get?_push_size _ rfl
  have f3 : ∀ b ∈ fp, FpOk X pins (upd H2 D (.lst [])) b ∧ b < s3.heap.objs.size := fun b hb => by
    obtain ⟨o, e, _⟩ := T.obj _ _ st2 b hb
    have lt := Heap.lt_size e
    exact ⟨⟨by rw [upd_ne (by rw [← eD]; exact Nat.ne_of_lt lt)]; exact (f2 b hb).1, (f2 b hb).2⟩, by rw [h3, Heap.size_push]; exact Nat.lt_succ_of_lt lt⟩
  have st3 : tn 0 s3.heap := T.keep _ _ _ st2 fun b _ o e => by rw [h3]; exact Heap.get?_push_of_some _ e
  have I4 := block_start I3 ok hN f3
  generalize ecl : cellsFrom (s3.heap.objs.size + 1) scope.names (cloFrom X.env.cells scope.names []) = cl at I4
  have pg := hg s3 (upd H2 D (.lst [])) s3.heap.objs.size cl fp
  have pt := ht s3 (upd H2 D (.lst [])) s3.heap.objs.size cl fp
  have pe := he s3 (upd H2 D (.lst [])) s3.heap.objs.size cl fp
  show codeAny _ _ (.compStart (.ListComp elt [⟨tg, iter, ifs, 0⟩] scope pos) 0 (.ref it) (.ref D) (compEnvC scope cl s3.heap.objs.size X.env)) (compEnds (model X.prog X.w) X.A X.xe use Qf (.ref D) (compEnvC scope cl s3.heap.objs.size X.env)) { s3 with heap := pushCells (s3.heap.push { cls := .type "dict", data := .dict #[] }) scope.names }
  generalize ece : compEnvC scope cl s3.heap.objs.size X.env = ce at I4 pg pt pe ⊢
  have cL : ce.locals = s3.heap.objs.size := by rw [← ece] <;> rfl
  have cF : ce.frame = X.env.frame := by rw [← ece] <;> rfl
  generalize e4 : ({ s3 with heap := pushCells (s3.heap.push { cls := .type "dict", data := .dict #[] }) scope.names } : Shared) = s4 at I4 ⊢
  generalize upd H2 D (.lst []) = H3 at I3 I4 pg pt pe w0 f3
  have st4 : tn 0 s4.heap := T.keep _ _ _ st3 fun b _ o e => by rw [← e4]; exact pushCells_keeps _ _ _ _ (Heap.get?_push_of_some _ e)
  have off : ∀ {σ' : L2.St} {H' : Hp} {s' : Shared}, Inv (X.blk s3 H3 scope ce fp) [] σ' H' s' → (∀ b ∈ fp, H' b = none) → ∀ b ∈ fp, FpOk (X.blk s3 H3 scope ce fp) [] H' b := fun {σ' H' s'} I' hn b hb =>
    ⟨hn b hb, (I'.ok.exf b hb).1, I'.ok.exfs b hb, .inl hb, (I'.ok.exf b hb).2, fun p hp => by simp at hp⟩
  -- a state of the block is one of the def's
  have back : ∀ {pn : List (Addr × Obj)} {σ' : L2.St} {H' : Hp} {s' : Shared}, Inv (X.blk s3 H3 scope ce fp) pn σ' H' s' → Inv X pins σ H' s' ∧ FpOk X pins H' ce.locals := fun {pn σ' H' s'} I' =>
    ⟨I3.call' (ch := fp) I'.os I'.base I'.hok I'.bare fun b hb => ⟨(f3 b hb).1.2.2.2.1, (f3 b hb).1.2.1, (f3 b hb).1.2.2.2.2.1, (f3 b hb).1.2.2.2.2.2⟩, I3.fpOk (by rw [cL]; exact Nat.le_refl _) I'.free⟩
  have loop : codeAny (model X.prog X.w) X.A (.compLoop (.ListComp elt [⟨tg, iter, ifs, 0⟩] scope pos) 0 (.ref it) (.ref D) ce) (compEnds (model X.prog X.w) X.A X.xe use Qf (.ref D) ce) s4 := by
    refine compLoop_any (fun n z => ∃ i K, Inv (X.blk s3 H3 scope ce fp) [] (wipe σ (own.map (·.2))) K z ∧ tn i z.heap ∧ (∀ b ∈ fp, K b = none) ∧ W i n K) ?_ m0 ⟨0, H3, I4, st4, fun b hb => (f3 b hb).1.1, w0⟩
    rintro n z ⟨i, K, Iz, stz, nz, wz⟩
    rcases turn i n K wz with ⟨stop, qq⟩ | ⟨go, Nx, hNx, step⟩
    · refine thnF (T.done (X.blk s3 H3 scope ce fp) rfl rfl rfl hc i [] z _ K (fun _ _ => False) Iz (off Iz nz) stz stop) fun r z1 ⟨hr, I6⟩ => ?_
      subst hr
      obtain ⟨I7, fC⟩ := back I6
      obtain ⟨m, hn, _⟩ := I6.loc
      exact ends_of_post (hRR D ce.locals z1 m K I7 qq hn fC)
    · refine thnF (T.item (X.blk s3 H3 scope ce fp) rfl rfl rfl hc i [] z _ K (fun _ _ => False) Iz (off Iz nz) stz go) fun r z1 ⟨u, hr, h6⟩ => ?_
      subst hr
      refine thnF h6 fun _ z2 ⟨x, H7, I7, r7, y7, st7, n7⟩ => ?_
      refine thnF (pg.run _ z2 _ H7 x u _ (I7.pinned (off I7 n7) (T.obj _ _ st7)) r7 (step x H7 y7)) fun _ z3 ⟨σ8, H8, I8, hw8, q8⟩ => ?_
      refine thnF (pt.run _ z3 σ8 H8 _ I8 q8) fun b z4 ⟨H9, I9, q9⟩ => ?_
      have ends : ∀ {z' : Shared} {H' : Hp}, Inv (X.blk s3 H3 scope ce fp) ([] ++ pinsAt fp z2.heap) σ8 H' z' → Nx H' → ∃ m, m < n ∧ ∃ i K, Inv (X.blk s3 H3 scope ce fp) [] (wipe σ (own.map (·.2))) K z' ∧ tn i z'.heap ∧ (∀ b ∈ fp, K b = none) ∧ W i m K := fun {z' H'} I' nx => by
        obtain ⟨m', hm, w'⟩ := hNx H' nx
        have held : ∀ b ∈ fp, ∀ o, z2.heap.get? b = some o → z'.heap.get? b = some o ∧ H' b = none := fun b hb o e =>
          have z := I'.pin (b, o) (List.mem_append_right _ (List.mem_append_right _ (mem_pinsAt hb e)))
          ⟨z.1, z.2.1⟩
        refine ⟨m', hm, i + 1, H', (I'.unpinned (pins := [])).weak (by rw [← hw8, wipe_length]) (fun j v e => by rw [← hw8] at e; exact (wipe_some e).1), T.keep _ _ _ st7 fun b hb o e => (held b hb o e).1, fun b hb => ?_, w'⟩
        obtain ⟨o, e, _⟩ := T.obj _ _ st7 b hb
        exact (held b hb o e).2
      cases b with
      | false =>
        simp only [Bool.false_eq_true, if_false] at q9 ⊢
        exact ends I9 q9
      | true =>
        simp only [if_true] at q9 ⊢
        have run := (pe (notedBy (model X.prog X.w) X.A ce fun e z' => compEnds (model X.prog X.w) X.A X.xe use Qf (.ref D) ce (.error e) z') fun σ' pn H' s' e z' J c => by
          have J' := J.unwish
          obtain ⟨IX, fC⟩ := back J'
          obtain ⟨m, hn, _⟩ := J'.loc
          exact comp_flew hst hfr cF tk IX fC hn (fun _ _ _ h => h) c).run _ z4 σ8 H9 _ (I9.wish _) q9
        refine wpAny_mono run (fun v z5 ⟨yv, H10, I10, r10, acc, hD10, hz10, nx⟩ => ?_) fun _ _ y => y
        exact app_ok (X := X.blk s3 H3 scope ce fp) I10.unwish hD10 hz10 r10 fun z6 I11 => ends I11 nx
  exact codeAny_compStart_list loop (T.self X.A 0 _ _ _ st4 loop)
/-- name = [..] on one line, the name a local -/
theorem ps_setLcX {i : Nat} {y : Str} {py : Pos} (hc : X.calm = true) (hN : X.N.Nodup) (hst : X.stack = X.env :: X.outer) (hfr : X.env.frame = some X.env.locals) (tk : Takes X (wE E)) (hy : X.N[i]? = some y) (hyl : X.env.scope.names.lookup y = some .local)
    (hsw : swapsWith (.ListComp elt [⟨tg, iter, ifs, 0⟩] scope pos) (some (.Name y py)) spos.line X.env = pure true) (hi : PI X tg iter wi) (ok : BlkOk X.N X.env.scope scope own)
    (hg : ∀ (s : Shared) (H : Hp) (C : Addr) (cl : List (Str × Addr)) (fp : List Addr), PG (X.blk s H scope (compEnvC scope cl C X.env) fp) tg g) (ht : ∀ (s : Shared) (H : Hp) (C : Addr) (cl : List (Str × Addr)) (fp : List Addr), PTs (X.blk s H scope (compEnvC scope cl C X.env) fp) ifs tt)
    (he : ∀ (s : Shared) (H : Hp) (C : Addr) (cl : List (Str × Addr)) (fp : List Addr) (xe : Value → Shared → Prop), (∀ σ, PassesAt (L2.CX X.prog X.w) ((X.blk s H scope (compEnvC scope cl C X.env) fp).wish xe) σ E) → PE ((X.blk s H scope (compEnvC scope cl C X.env) fp).wish xe) elt te)
    (hs : ∀ x, foldedSetIterable iter X.env x = pure x := by intro _; rfl) :
    PS X (.Assign [.Name y py] (.ListComp elt [⟨tg, iter, ifs, 0⟩] scope pos) spos) (tAsg (tLc wi g tt te (own.map (·.2))) (gName i)) := by
  refine ⟨fun pins s σ H D I h => ?_⟩
  rw [exec_Assign_Name_used _ _ _ _ hsw]
  refine wpAny_bind (wpAny_standAt (wpAny_bind ?_))
  show wpAny _ X.A (do let _ ← comprehension (.ListComp elt [⟨tg, iter, ifs, 0⟩] scope pos) scope X.env (firstIterPos [⟨tg, iter, ifs, 0⟩] pos) (newList []) false (eval iter X.env) (some (assign (.Name y py) X.env))) _ _ s
  refine wpAny_bind (thn (lcX (E := E) (Q := fun x H1 => gName i x σ H1 D.nx) (Qf := fun _ z => SP X pins D .next z) hc hN hst hfr tk I hi ok hg ht he hs h fun L C z m H' I' q hn f => ?_) fun _ _ hq => wpAny_pure (wpAny_pure hq))
  show wpAny _ _ (assign (.Name y py) X.env (.ref L)) _ _ _
  refine wpAny_assign_Name (store_ok2 (v := V.ref L) I' hN hy (.inl hyl) rfl (fun z2 I2 ⟨a, sb, ha⟩ => ?_) (.inr hyl))
  have hCa : C ≠ a := ha.elim (fun e => by rw [e]; exact f.2.1) fun e z => f.2.2.2.2.1 y a e z.symm
  exact ⟨m, hn.sameBut sb hCa, fun h3 sb3 => ⟨_, H', I2.turned (t' := z2.toks) (fun b o hb e => (sb3.2 b hb).trans e) f.1 f.2.1 f.2.2.2.1 f.2.2.2.2.1 f.2.2.2.2.2, q⟩⟩
end
end
end Shf

/-! texts by their signs; seat_of, read -/
namespace Shf
open PySem L2
section
variable {H : Hp} {Q : VK}
theorem eq_SL {l m : List Nat} (q : Q (.bl (decide (l = m))) H) : rEq (.str (SX.S l)) (.str (SX.S m)) H Q := ⟨rfl, by
  have e : decide (V.str (SX.S l) = V.str (SX.S m)) = decide (l = m) := dec_iff ⟨fun h => SX.S_inj (V.str.inj h), fun h => by rw [h]⟩
  rw [e]; exact q⟩
theorem ne_SL {l m : List Nat} (q : Q (.bl (!decide (l = m))) H) : rNe (.str (SX.S l)) (.str (SX.S m)) H Q := ⟨rfl, by
  have e : decide (V.str (SX.S l) = V.str (SX.S m)) = decide (l = m) := dec_iff ⟨fun h => SX.S_inj (V.str.inj h), fun h => by rw [h]⟩
  rw [e]; exact q⟩
theorem len_SL {l : List Nat} (h : l.length ≤ 100000) (q : Q (.int (l.length : Nat)) H) : rLenSt [.str (SX.S l)] H Q := ⟨SX.S l, rfl, by rw [SX.S_len]; exact zl h, by rw [SX.S_len]; exact q⟩
theorem ix_SL {l : List Nat} {z : Int} {i c : Nat} (h : l[i]? = some c) (hl : l.length ≤ 100000) (e : z = (i : Int)) (q : Q (.str (SX.S [c])) H) : rIxS (.str (SX.S l)) (.int z) H Q := by
  refine ⟨SX.S l, z, c, rfl, rfl, by rw [SX.S_len]; exact zl hl, ?_, q⟩
  have hi := (List.getElem?_eq_some_iff.mp h).1
  show atI l z = some c
  unfold atI ixN
  rw [if_pos (by omega), if_pos (by omega)]
  show l[z.toNat]? = some c
  rw [show z.toNat = i by omega]
  exact h
theorem ix_Sl {l : List Nat} {z : Int} {c : Nat} (h : l.getLast? = some c) (hl : l.length ≤ 100000) (e : z = -1) (q : Q (.str (SX.S [c])) H) : rIxS (.str (SX.S l)) (.int z) H Q := by
  refine ⟨SX.S l, z, c, rfl, rfl, by rw [SX.S_len]; exact zl hl, ?_, q⟩
  show atI l z = some c
  have hne : l ≠ [] := fun e => by rw [e] at h; cases h
  have hpos : 0 < l.length := List.length_pos_iff.mpr hne
  unfold atI ixN
  rw [e, if_neg (by decide), if_pos (by omega)]
  show l[(-1 + (l.length : Int)).toNat]? = some c
  rw [show (-1 + (l.length : Int)).toNat = l.length - 1 by omega, ← List.getLast?_eq_getElem?]
  exact h
theorem nin_S {c : Nat} {m : List Nat} (q : Q (.bl (!decide (c ∈ m))) H) : rNotInS (.str (SX.S [c])) (.str (SX.S m)) H Q := ⟨c, SX.S m, rfl, rfl, q⟩
theorem in_S {c : Nat} {m : List Nat} (q : Q (.bl (decide (c ∈ m))) H) : rInS (.str (SX.S [c])) (.str (SX.S m)) H Q := ⟨c, SX.S m, rfl, rfl, q⟩
end
/-- for sign in text -/
theorem for_S {l : List Nat} {g : TG} {tb : TS} {D : Ends} {σ : L2.St} {H : Hp} (Pv : Nat → L2.St → Hp → Prop) (h0 : Pv 0 σ H)
    (hs : ∀ i c σ H, l[i]? = some c → Pv i σ H → g (.str (SX.S [c])) σ H fun σ2 H2 => tb { D with nx := Pv (i + 1), ct := Pv (i + 1), bk := D.nx } σ2 H2) (hd : ∀ σ H, Pv l.length σ H → D.nx σ H) :
    ∃ W : Nat → Nat → L2.St → Hp → Prop, (∃ m, W 0 m σ H) ∧ ∀ i m σ H, W i m σ H →
      ((Its (SX.S l)).stop i H ∧ D.nx σ H) ∨ ((Its (SX.S l)).go i H ∧ ∃ N : L2.St → Hp → Prop, (∀ σ' H', N σ' H' → ∃ m', m' < m ∧ W (i + 1) m' σ' H') ∧ ∀ x H', (Its (SX.S l)).yld i H x H' → g x σ H' fun σ2 H2 => tb { D with nx := N, ct := N, bk := D.nx } σ2 H2) := by
  have w : Walk (Its (SX.S l)) l.length (fun _ => True) (fun i H v H' => H' = H ∧ ∃ c, (SX.S l).cps[i]? = some c ∧ v = .str ⟨#[c]⟩) := walk_str (z := SX.S l)
  refine for_it w Pv h0 (fun _ _ _ _ _ => trivial) (fun i x σ H H' hi p y => ?_) hd
  obtain ⟨rfl, c, hc, rfl⟩ := y
  refine hs i c σ H' ?_ p
  have : (SX.S l).cps[i]? = l[i]? := by show l.toArray[i]? = _; rw [List.getElem?_toArray]
  rw [← this]; exact hc
theorem w_istr {te : TE} {σ : L2.St} {H : Hp} {R : It → Hp → Prop} (h : te σ H fun v H1 => ∃ x, v = .str x ∧ R (Its x) H1) : iStr te σ H R := h
theorem w_slT {r : V → Option Int → Option Int → Hp → VK → Prop} {te : TE} {tl th : TO} {σ : L2.St} {H : Hp} {Q : VK} (h : te σ H fun x H1 => tl σ H1 fun l H2 => th σ H2 fun u H3 => r x l u H3 Q) : L2.tSl r te tl th σ H Q := h
theorem w_part {t : TE} {σ : L2.St} {H : Hp} {Q : Option Int → Hp → Prop} (h : t σ H fun x H1 => ∃ i, x = .int i ∧ Q (some i) H1) : tPart t σ H Q := h
theorem w_m1 {r : V → List V → Hp → VK → Prop} {to te : TE} {σ : L2.St} {H : Hp} {Q : VK} (h : to σ H fun x H1 => (∃ a, x = .str a) ∧ te σ H1 fun y H2 => r x [y] H2 Q) : tM1 r to te σ H Q := h
theorem w_din {td ty : TE} {σ : L2.St} {H : Hp} {Q : VK} (h : ty σ H fun y H1 => td σ H1 fun x H2 => ∃ a o, x = .ref a ∧ DGet H2 a y o ∧ Q (.bl o.isSome) H2) : tDIn ty td σ H Q := h
/-! ### literals -/
theorem lit0 : ("" : Str) = SX.S [] := by rfl
theorem litP : ("()" : Str) = SX.S [40, 41] := by rfl
theorem litA : ("(" : Str) = SX.S [40] := by rfl
theorem litZ : (")" : Str) = SX.S [41] := by rfl
theorem litB : (")(" : Str) = SX.S [41, 40] := by rfl
theorem litS : (" " : Str) = SX.S [32] := by rfl
theorem lit00 : ("0" : Str) = SX.S [48] := by rfl
theorem litF : ("0123456789" : Str) = SX.S [48, 49, 50, 51, 52, 53, 54, 55, 56, 57] := by rfl
/-! ### what is read -/
def digB (c : Nat) : Bool := decide (48 ≤ c) && decide (c ≤ 57)
theorem dig_in {c : Nat} : c ∈ [48, 49, 50, 51, 52, 53, 54, 55, 56, 57] ↔ digB c = true := by
  unfold digB
  simp only [List.mem_cons, List.not_mem_nil, or_false, Bool.and_eq_true, decide_eq_true_eq]
  omega
/-- the seat that a word writes -/
def seatP (n : Nat) (w : List Nat) : Option Nat :=
  if w = [] ∨ 2 < w.length ∨ (w.head? = some 48 ∧ 1 < w.length) then none
  else if w.all digB = true then (if NumText.digitsVal w < n then some (NumText.digitsVal w) else none) else none
theorem seatP_lt {n : Nat} {w : List Nat} {v : Nat} (h : seatP n w = some v) : v < n := by
  unfold seatP at h
  split at h
  · cases h
  · split at h
    · split at h
      · rename_i h3
        rw [← Option.some.inj h]; exact h3
      · cases h
    · cases h
def seatsP (n : Nat) : List (List Nat) → Option (List Nat)
  | [] => some []
  | w :: ws => match seatP n w with
    | none => none
    | some v => (seatsP n ws).map (v :: ·)
theorem seatsP_snoc {n : Nat} : ∀ (ws : List (List Nat)) (w : List Nat), seatsP n (ws ++ [w]) = (seatsP n ws).bind fun r => (seatP n w).map fun v => r ++ [v]
  | [], w => by
    show (match seatP n w with | none => none | some v => (some ([] : List Nat)).map (v :: ·)) = _
    cases seatP n w <;> rfl
  | x :: ws, w => by
    show (match seatP n x with | none => none | some v => (seatsP n (ws ++ [w])).map (v :: ·)) = Option.bind (match seatP n x with | none => none | some v => (seatsP n ws).map (v :: ·)) _
    rw [seatsP_snoc ws w]
    cases seatP n x with
    | none => rfl
    | some v =>
      cases seatsP n ws with
      | none => rfl
      | some r => cases seatP n w <;> rfl
theorem seatsP_lt {n : Nat} : ∀ {ws : List (List Nat)} {r : List Nat}, seatsP n ws = some r → ∀ x ∈ r, x < n
  | [], r, h, x, hx => by
    rw [← Option.some.inj h] at hx; cases hx
  | w :: ws, r, h, x, hx => by
    have h : (match seatP n w with | none => none | some v => (seatsP n ws).map (v :: ·)) = some r := h
    cases e : seatP n w with
    | none => rw [e] at h; cases h
    | some v =>
      rw [e] at h
      cases e2 : seatsP n ws with
      | none => rw [e2] at h; cases h
      | some r' =>
        rw [e2] at h
        have h : v :: r' = r := Option.some.inj h
        subst h
        rcases List.mem_cons.mp hx with hx | hx
        · rw [hx]; exact seatP_lt e
        · exact seatsP_lt e2 x hx
theorem seatsP_len {n : Nat} : ∀ {ws : List (List Nat)} {r : List Nat}, seatsP n ws = some r → r.length = ws.length
  | [], r, h => by rw [← Option.some.inj h] <;> rfl
  | w :: ws, r, h => by
    have h : (match seatP n w with | none => none | some v => (seatsP n ws).map (v :: ·)) = some r := h
    cases e : seatP n w with
    | none => rw [e] at h; cases h
    | some v =>
      rw [e] at h
      cases e2 : seatsP n ws with
      | none => rw [e2] at h; cases h
      | some r' =>
        rw [e2] at h
        have h : v :: r' = r := Option.some.inj h
        rw [← h, List.length_cons, List.length_cons, seatsP_len e2]
/-- a fold that may fail -/
def foldO {α β : Type} (f : α → β → Option α) : α → List β → Option α
  | s, [] => some s
  | s, x :: l => (f s x).bind fun t => foldO f t l
theorem foldO_app {α β : Type} {f : α → β → Option α} : ∀ (a b : List β) (s : α), foldO f s (a ++ b) = (foldO f s a).bind fun t => foldO f t b
  | [], b, s => rfl
  | x :: a, b, s => by
    show (f s x).bind (fun t => foldO f t (a ++ b)) = ((f s x).bind fun t => foldO f t a).bind _
    cases f s x with
    | none => rfl
    | some t => exact foldO_app a b t
theorem foldO_snoc {α β : Type} {f : α → β → Option α} {a : List β} {x : β} {s t : α} (h : foldO f s a = some t) : foldO f s (a ++ [x]) = f t x := by
  rw [foldO_app, h]
  show (f t x).bind (fun t => some t) = f t x
  cases f t x <;> rfl
theorem foldO_pre {α β : Type} {f : α → β → Option α} {a b : List β} {s : α} (h : foldO f s a = none) : foldO f s (a ++ b) = none := by
  rw [foldO_app, h] <;> rfl
abbrev RdSt := List Nat × List Nat
def stepP (r : List Nat) (st : RdSt) (k : Nat) : Option RdSt := if r.getD k 0 ∈ st.2 then none else some (st.1.set (r.getD k 0) (r.getD ((k + 1) % r.length) 0), st.2 ++ [r.getD k 0])
def ringP (n : Nat) (st : RdSt) (part : List Nat) : Option RdSt := (seatsP n (TL.spl [32] 0 [] part)).bind fun r => if r.length < 2 then none else foldO (stepP r) st (List.range r.length)
def innL (t : List Nat) : List Nat := (t.drop 1).take (t.length - 2)
def partsL (t : List Nat) : List (List Nat) := TL.spl [41, 40] 0 [] (innL t)
/-- the seating that a text writes -/
def readP (n : Nat) (t : List Nat) : Option (List Nat) :=
  if t = [40, 41] then some (List.range n)
  else if t.length < 2 ∨ t.head? ≠ some 40 ∨ t.getLast? ≠ some 41 then none
  else (foldO (ringP n) (List.range n, []) (partsL t)).map (·.1)
theorem spl_size (S : List Nat) : ∀ (l : List Nat) (k : Nat) (acc : List Nat), (TL.spl S k acc l).length ≤ l.length + 1 ∧ ∀ p ∈ TL.spl S k acc l, p.length ≤ acc.length + l.length
  | [], k, acc => by rw [TL.spl_nil]; exact ⟨Nat.le_refl _, fun p hp => by rw [List.mem_singleton.mp hp]; exact Nat.le_refl _⟩
  | c :: r, 0, acc => by
    cases h : TL.pre S (c :: r) with
    | true =>
      rw [TL.spl_hit h]
      obtain ⟨i1, i2⟩ := spl_size S r (S.length - 1) []
      refine ⟨by rw [List.length_cons, List.length_cons]; omega, fun p hp => ?_⟩
      rcases List.mem_cons.mp hp with rfl | hp
      · omega
      · have := i2 p hp; rw [List.length_cons]; have : p.length ≤ 0 + r.length := this; omega
    | false =>
      rw [TL.spl_miss h]
      obtain ⟨i1, i2⟩ := spl_size S r 0 (acc ++ [c])
      refine ⟨by rw [List.length_cons]; omega, fun p hp => ?_⟩
      have := i2 p hp
      rw [List.length_append] at this
      rw [List.length_cons]
      have : p.length ≤ acc.length + 1 + r.length := this
      omega
  | c :: r, k + 1, acc => by
    show (TL.spl S k acc r).length ≤ _ ∧ ∀ p ∈ TL.spl S k acc r, _
    obtain ⟨i1, i2⟩ := spl_size S r k acc
    exact ⟨by rw [List.length_cons]; omega, fun p hp => by have := i2 p hp; rw [List.length_cons]; omega⟩
def sp_seat_of (K : PySem.W.Frag) (g : Gd) : Sp := fun vs H Q E => ∃ (w : List Nat) (n : Nat), vs = [.str (SX.S w), .int (n : Int)] ∧ w.length ≤ 100000 ∧ (seatP n w = none → E (.ref g.NotRead) none H) ∧ (∀ v, seatP n w = some v → Q (.int ((v : Nat) : Int)) H)
theorem len_seat_of (K : PySem.W.Frag) (g : Gd) (vs : List V) (H : Hp) (Q : VK) (E : XK) (h : sp_seat_of K g vs H Q E) : vs.length = 2 := by obtain ⟨_, _, rfl, _⟩ := h; rfl
abbrev N_seat_of : List Str := ["word", "size", "sign", "seat"]
/-- seat_of -/
def t_seat_of (K : PySem.W.Frag) (g : Gd) (E : XK) : TS :=
  (tSeq (tIfS (tOr (tTest (tOp rEq (tVar 0) (tC (.str "")))) (tOr (tTest (tOp rGtI (tCB rLenSt (tCons (tVar 0) tNil)) (tC (.int 2)))) (tAnd (tTest (tOp rEq (tOp rIxS (tVar 0) (tC (.int 0))) (tC (.str "0")))) (tTest (tOp rGtI (tCB rLenSt (tCons (tVar 0) tNil)) (tC (.int 1))))))) (tRaiseW (wE E) g.NotRead) tNext)
    (tSeq (tFor (iStr (tVar 0)) (gName 2) (tIfS (tTest (tOp rNotInS (tVar 2) (tC (.str "0123456789")))) (tRaiseW (wE E) g.NotRead) tNext))
    (tSeq (tAsg (tCB rIntS (tCons (tVar 0) tNil)) (gName 3))
    (tSeq (tIfS (tTest (tOp rGeI (tVar 3) (tVar 1))) (tRaiseW (wE E) g.NotRead) tNext)
    (tRet (tVar 3))))))
theorem pure_seat_of {K : PySem.W.Frag} {g : Gd} (vs : List V) (H : Hp) (Q : VK) (E : XK) (h : sp_seat_of K g vs H Q E) : Rd1 (t_seat_of K g E) N_seat_of vs H Q := by
  obtain ⟨w, n, rfl, hw, hE, k⟩ := h
  unfold t_seat_of
  rw [lit0, lit00, litF]
  have bad : (w = [] ∨ 2 < w.length ∨ (w.head? = some 48 ∧ 1 < w.length)) → E (.ref g.NotRead) none H := fun h => hE (by unfold seatP; rw [if_pos h])
  walk_at "sq"
  refine w_join (t := tIfS _ _ _) (fun σ H' => σ = [some (.str (SX.S w)), some (.int (n : Int)), none, none] ∧ H' = H ∧ ¬ (w = [] ∨ 2 < w.length ∨ (w.head? = some 48 ∧ 1 < w.length))) ?_ fun key => ?_
  · rintro σ H' ⟨rfl, rfl, hb⟩
    have hne : w ≠ [] := fun e => hb (.inl e)
    have hl2 : w.length ≤ 2 := Nat.le_of_not_lt fun h => hb (.inr (.inl h))
    walk_at "re"
    walk_at "sq"
    walk_at "st"
    refine w_istr ?_
    walk_at "ex"
    refine ⟨_, rfl, for_S (fun i σ H2 => ∃ y, σ = [some (.str (SX.S w)), some (.int (n : Int)), y, none] ∧ H2 = H' ∧ (w.take i).all digB = true) ⟨none, rfl, rfl, by rw [List.take_zero] <;> rfl⟩ ?_ ?_⟩
    · rintro i c σ H2 hc ⟨y, rfl, rfl, hd⟩
      show tIfS _ _ _ _ (List.set _ 2 (some (V.str (SX.S [c])))) H2
      walk_at "st"
      walk_at "ex"
      refine nin_S ?_
      walk_at "ex"
      refine if_nd (fun z => ?_) (fun z => ?_)
      · refine w_raise (hE ?_)
        unfold seatP
        rw [if_neg hb, if_neg]
        intro ha
        exact z (dig_in.mpr (List.all_eq_true.mp ha c (List.mem_of_getElem? hc)))
      · refine ⟨_, rfl, rfl, ?_⟩
        rw [take_more hc, List.all_append, hd, List.all_cons, dig_in.mp z] <;> rfl
    · rintro σ H2 ⟨y, rfl, rfl, hd⟩
      rw [List.take_length] at hd
      have hv : intText? (SX.S w) = some ((NumText.digitsVal w : Nat) : Int) := SX.int_S hd hne (by omega)
      walk_at "re"
      walk_at "sq"
      walk_at "re"
      refine ⟨SX.S w, _, rfl, hv, by rw [SX.S_len]; omega, ?_⟩
      walk_at "re"
      walk_at "sq"
      walk_at "st"
      walk_at "ex"
      refine if_d (fun z => ?_) (fun z => ?_)
      · refine w_raise (hE ?_)
        unfold seatP
        rw [if_neg hb, if_pos hd, if_neg (by omega)]
      · walk_at "rd"
        refine k _ ?_
        unfold seatP
        rw [if_neg hb, if_pos hd, if_pos (by omega)]
  · refine w_if ?_
    refine w_or ?_
    walk_at "ex"
    refine eq_SL ?_
    walk_at "ex"
    refine if_d (fun c => if_t rfl (w_raise (bad (.inl c)))) (fun c1 => ?_)
    refine w_or ?_
    walk_at "ex"
    refine len_SL hw ?_
    walk_at "ex"
    refine if_d (fun c => if_t rfl (w_raise (bad (.inr (.inl (by omega)))))) (fun c2 => ?_)
    obtain ⟨c0, w', ew⟩ : ∃ c0 w', w = c0 :: w' := by
      cases w with
      | nil => exact absurd rfl c1
      | cons a b => exact ⟨a, b, rfl⟩
    refine w_and ?_
    walk_at "ex"
    refine ix_SL (i := 0) (c := c0) (by rw [ew] <;> rfl) hw rfl ?_
    walk_at "ex"
    refine eq_SL ?_
    walk_at "ex"
    refine if_d (fun c3 => ?_) (fun c3 => ?_)
    · walk_at "ex"
      refine len_SL hw ?_
      walk_at "ex"
      refine if_d (fun c4 => w_raise (bad (.inr (.inr ⟨?_, by omega⟩)))) (fun c4 => key _ _ ⟨rfl, rfl, ?_⟩)
      · rw [ew]
        have : c0 = 48 := by simpa using c3
        rw [this] <;> rfl
      · rintro (h | h | h)
        · exact c1 h
        · omega
        · omega
    · refine if_f rfl (key _ _ ⟨rfl, rfl, ?_⟩)
      rintro (h | h | h)
      · exact c1 h
      · omega
      · refine c3 ?_
        have h1 := h.1
        rw [ew] at h1
        have : c0 = 48 := Option.some.inj h1
        rw [this]
end Shf

/-! read -/
namespace Shf
open PySem L2
theorem str_get {l : List (List Nat)} {i : Nat} {x : V} (h : ((l.map SX.S).map V.str)[i]? = some x) : ∃ p, l[i]? = some p ∧ x = V.str (SX.S p) := by
  rw [List.getElem?_map, List.getElem?_map] at h
  cases e : l[i]? with
  | none => rw [e] at h; cases h
  | some p => rw [e] at h; exact ⟨p, rfl, (Option.some.inj h).symm⟩
theorem seatsP_app {n : Nat} : ∀ (a b : List (List Nat)), seatsP n (a ++ b) = (seatsP n a).bind fun r => (seatsP n b).map (r ++ ·)
  | [], b => by
    show seatsP n b = (seatsP n b).map _
    cases seatsP n b <;> rfl
  | x :: a, b => by
    show (match seatP n x with | none => none | some v => (seatsP n (a ++ b)).map (v :: ·)) = Option.bind (match seatP n x with | none => none | some v => (seatsP n a).map (v :: ·)) _
    rw [seatsP_app a b]
    cases seatP n x with
    | none => rfl
    | some v =>
      cases seatsP n a with
      | none => rfl
      | some r => cases seatsP n b <;> rfl
theorem inn_cut {t : List Nat} (h : 2 ≤ t.length) : cutS (SX.S t) (some 1) (some (-1)) = SX.S (innL t) := by
  unfold cutS innL
  rw [SX.S_len]
  have e1 : HT.sIx t.length 0 (some 1) = 1 := by
    show (if (1 : Int) < 0 then ((1 : Int) + (t.length : Int)).toNat else min (1 : Int).toNat t.length) = 1
    rw [if_neg (by decide)]
    show min 1 t.length = 1
    omega
  have e2 : HT.sIx t.length t.length (some (-1)) = t.length - 1 := by
    show (if (-1 : Int) < 0 then ((-1 : Int) + (t.length : Int)).toNat else min (-1 : Int).toNat t.length) = _
    rw [if_pos (by decide)]
    omega
  rw [e1, e2, show t.length - 1 - 1 = t.length - 2 by omega]
theorem split_new {a b : List Nat} {H : Hp} {Q : VK} (hb : b ≠ []) (hk : b.all (· < 256) = true) (hl : a.length ≤ 90000) (k : ∀ p, H p = none → Q (.ref p) (upd H p (.lst (((TL.spl b 0 [] a).map SX.S).map V.str)))) : rSplit (.str (SX.S a)) [.str (SX.S b)] H Q := by
  refine ⟨SX.S a, SX.S b, rfl, rfl, ?_, by rw [SX.S_len]; exact zl (by omega), fun p hp => ?_⟩
  · rw [SX.S_len]
    cases b with
    | nil => exact absurd rfl hb
    | cons x y => rfl
  · rw [SX.split_S hb hk]
    exact k p hp
theorem range_cut {n j : Nat} (h : j + 1 ≤ n) : List.range n = List.range (j + 1) ++ (List.range n).drop (j + 1) := by
  conv => lhs; rw [← List.take_append_drop (j + 1) (List.range n)]
  rw [List.take_range, Nat.min_eq_left h]
/-- what the reading holds -/
structure RdAt (m : Nat) (H : Hp) (l d : Addr) (st : RdSt) : Prop where
  row : H l = some (.lst (vN st.1))
  len : st.1.length = m
  dic : ∃ kvs, H d = some (.dK kvs) ∧ DK kvs (· ∈ st.2) ∧ kvs.length ≤ st.2.length
  nd : st.2.Nodup
  lt : ∀ x ∈ st.2, x < m
theorem RdAt.mono {m : Nat} {H H' : Hp} {l d : Addr} {st : RdSt} (h : RdAt m H l d st) (s : Same H H') : RdAt m H' l d st := by
  obtain ⟨kvs, h1, h2, h3⟩ := h.dic
  exact ⟨s _ _ h.row, h.len, ⟨kvs, s _ _ h1, h2, h3⟩, h.nd, h.lt⟩
def sp_read (K : PySem.W.Frag) (g : Gd) : Sp := fun vs H Q E => ∃ (t : List Nat) (z : Int), vs = [.str (SX.S t), .int z] ∧ t.length ≤ 10000 ∧ (¬ (1 ≤ z ∧ z ≤ 16) → E (.ref g.NoSize) none H) ∧
  ∀ n : Nat, z = (n : Int) → 1 ≤ n → n ≤ 16 → (readP n t = none → ∀ H', Same H H' → E (.ref g.NotRead) none H') ∧ (∀ row, readP n t = some row → NewT H row Q)
theorem len_read (K : PySem.W.Frag) (g : Gd) (vs : List V) (H : Hp) (Q : VK) (E : XK) (h : sp_read K g vs H Q E) : vs.length = 2 := by obtain ⟨_, _, rfl, _⟩ := h; rfl
abbrev N_read : List Str := ["text", "size", "row", "used", "part", "ring", "k", "word"]
/-- read -/
def t_read (K : PySem.W.Frag) (g : Gd) (E : XK) : TS :=
  (tSeq (tDrop (tCallS (sp_ask_size K g) (WE (wE E)) (tCons (tVar 1) tNil)))
    (tSeq (tAsg (tCB (rListOf K) (tCons (tCallS (sp_rest K g) (WE (wE E)) (tCons (tVar 1) tNil)) tNil)) (gName 2))
    (tSeq (tIfS (tTest (tOp rEq (tVar 0) (tC (.str "()")))) (tRet (tCB (rTupOf K) (tCons (tVar 2) tNil))) tNext)
    (tSeq (tIfS (tOr (tTest (tOp rLtI (tCB rLenSt (tCons (tVar 0) tNil)) (tC (.int 2)))) (tOr (tTest (tOp rNe (tOp rIxS (tVar 0) (tC (.int 0))) (tC (.str "(")))) (tTest (tOp rNe (tOp rIxS (tVar 0) (tUn (rU fun i => .int (-i)) (tC (.int 1)))) (tC (.str ")")))))) (tRaiseW (wE E) g.NotRead) tNext)
    (tSeq (tAsg tDNewK (gName 3))
    (tSeq (tFor (iList K (tM1 rSplit (tSl rSlS (tVar 0) (tPart (tC (.int 1))) (tPart (tUn (rU fun i => .int (-i)) (tC (.int 1))))) (tC (.str ")(")))) (gName 4) (tSeq (tAsg (tLc (iList K (tM1 rSplit (tVar 4) (tC (.str " ")))) (gName 7) tYes (tCallS (sp_seat_of K g) (fun _ => E) (tCons (tVar 7) (tCons (tVar 1) tNil))) [7]) (gName 5))
    (tSeq (tIfS (tTest (tOp rLtI (tCB (rLenQ K) (tCons (tVar 5) tNil)) (tC (.int 2)))) (tRaiseW (wE E) g.NotRead) tNext)
    (tFor (iRng1 (tCons (tCB (rLenQ K) (tCons (tVar 5) tNil)) tNil)) (gName 6) (tSeq (tIfS (tB (tDIn (tOp (rIxL K) (tVar 5) (tVar 6)) (tVar 3))) (tRaiseW (wE E) g.NotRead) tNext)
    (tSeq (sDPut (tVar 3) (tOp (rIxL K) (tVar 5) (tVar 6)) (tC (.bl true)))
    (tAsg (tOp (rIxL K) (tVar 5) (tOp rModI (tOp rAddI (tVar 6) (tC (.int 1))) (tCB (rLenQ K) (tCons (tVar 5) tNil)))) (gSub (tVar 2) (tOp (rIxL K) (tVar 5) (tVar 6)) rSetL))))))))
    (tRet (tCB (rTupOf K) (tCons (tVar 2) tNil)))))))))
theorem pure_read {K : PySem.W.Frag} {g : Gd} (vs : List V) (H : Hp) (Q : VK) (E : XK) (h : sp_read K g vs H Q E) : Rd1 (t_read K g E) N_read vs H Q := by
  obtain ⟨t, z, rfl, ht, hE, hn⟩ := h
  unfold t_read
  rw [litP, litA, litZ, litB, litS]
  walk_at "re"
  walk_at "sq"
  walk_at "re"
  refine ⟨z, rfl, fun hz => ?_, hE⟩
  obtain ⟨n, en, h1, h16⟩ : ∃ n : Nat, z = (n : Int) ∧ 1 ≤ n ∧ n ≤ 16 := ⟨z.toNat, by omega, by omega, by omega⟩
  subst en
  obtain ⟨hno, hyes⟩ := hn n rfl h1 h16
  clear hE hn
  walk_at "re"
  walk_at "sq"
  walk_at "re"
  refine ⟨(n : Int), rfl, fun _ p0 H0 s0 hp0 hp00 => ?_, fun bad => absurd hz bad⟩
  rw [Int.toNat_natCast] at hp00
  walk_at "re"
  refine ⟨p0, _, rfl, .inr (sqT hp00), fun l hl => ?_⟩
  have s1 : Same H (upd H0 l (.lst (vN (List.range n)))) := s0.new hl
  have hl1 : (upd H0 l (.lst (vN (List.range n)))) l = some (.lst (vN (List.range n))) := upd_same
  have hl0 : H l = none := s0.free hl
  generalize upd H0 l (.lst (vN (List.range n))) = H1 at *
  clear hp00
  walk_at "re"
  walk_at "sq"
  walk_at "st"
  walk_at "ex"
  refine eq_SL ?_
  walk_at "ex"
  refine if_d (fun c0 => ?_) (fun c0 => ?_)
  · walk_at "rd"
    refine tup_L (sqL hl1) fun r hr => ?_
    exact hyes _ (by unfold readP; rw [if_pos c0]) r _ (s1.new hr) (s1.free hr) upd_same
  have bad : (t.length < 2 ∨ t.head? ≠ some 40 ∨ t.getLast? ≠ some 41) → ∀ H', Same H H' → E (.ref g.NotRead) none H' := fun h => hno (by unfold readP; rw [if_neg c0, if_pos h])
  walk_at "re"
  walk_at "sq"
  refine w_join (t := tIfS _ _ _) (fun σ H' => σ = [some (.str (SX.S t)), some (.int (n : Int)), some (.ref l), none, none, none, none, none] ∧ H' = H1 ∧ ¬ (t.length < 2 ∨ t.head? ≠ some 40 ∨ t.getLast? ≠ some 41)) ?_ fun key => ?_
  · rintro σ H' ⟨rfl, rfl, hb⟩
    have h2 : 2 ≤ t.length := Nat.le_of_not_lt fun h => hb (.inl h)
    have hfold : foldO (ringP n) (List.range n, []) (partsL t) = none → ∀ H', Same H H' → E (.ref g.NotRead) none H' := fun h => hno (by unfold readP; rw [if_neg c0, if_neg hb, h] <;> rfl)
    have hdone : ∀ st : RdSt, foldO (ringP n) (List.range n, []) (partsL t) = some st → NewT H st.1 Q := fun st h => hyes _ (by unfold readP; rw [if_neg c0, if_neg hb, h] <;> rfl)
    clear hno hyes bad hb
    walk_at "re"
    walk_at "sq"
    walk_at "re"
    refine w_dnew fun d hd => ?_
    have s2 : Same H' (upd H' d (.dK [])) := (Same.refl H').new hd
    have hd2 : (upd H' d (.dK [])) d = some (.dK []) := upd_same
    have hd0 : H d = none := s1.free hd
    have hld : l ≠ d := ne_of_none hl1 hd
    generalize upd H' d (.dK []) = H2 at *
    have s02 := s1.trans s2
    have hl2 := s2 _ _ hl1
    walk_at "re"
    walk_at "sq"
    walk_at "st"
    refine w_ilist ?_
    refine w_m1 ?_
    refine w_slT ?_
    walk_at "ex"
    refine w_part ?_
    walk_at "ex"
    refine w_part ?_
    walk_at "ex"
    refine ⟨SX.S t, rfl, by rw [SX.S_len]; exact zl (by omega), ?_⟩
    rw [inn_cut h2]
    refine ⟨⟨_, rfl⟩, ?_⟩
    walk_at "ex"
    have hinn : (innL t).length ≤ 10000 := by unfold innL; rw [List.length_take, List.length_drop]; omega
    refine split_new (by decide) (by decide) (by omega) fun q hq => ?_
    have hq3 : (upd H2 q (.lst (((TL.spl [41, 40] 0 [] (innL t)).map SX.S).map V.str))) q = some (.lst (((partsL t).map SX.S).map V.str)) := upd_same
    have s3 : Same H2 (upd H2 q (.lst (((TL.spl [41, 40] 0 [] (innL t)).map SX.S).map V.str))) := (Same.refl H2).new hq
    have hql : q ≠ l := (ne_of_none hl2 hq).symm
    have hqd : q ≠ d := (ne_of_none hd2 hq).symm
    have hq0 : H q = none := s02.free hq
    generalize upd H2 q (.lst (((TL.spl [41, 40] 0 [] (innL t)).map SX.S).map V.str)) = H3 at *
    have s03 := s02.trans s3
    have hsz : ∀ p ∈ partsL t, p.length ≤ 10000 := fun p hp => by
      have := (spl_size [41, 40] (innL t) 0 []).2 p hp
      have : p.length ≤ 0 + (innL t).length := this
      omega
    have R3 : RdAt n H3 l d (List.range n, []) := ⟨s3 _ _ hl2, List.length_range, ⟨[], s3 _ _ hd2, DK.nil.cong fun x => ⟨fun h => h.elim, fun h => by cases h⟩, Nat.le_refl _⟩, List.nodup_nil, fun x hx => by cases hx⟩
    refine ⟨q, rfl, ⟨_, sqL hq3⟩, for_list (K := K) (a := q) (xs := ((partsL t).map SX.S).map V.str) (fun i σ Hx => ∃ (st : RdSt) (y4 y5 y6 : Option V), σ = [some (.str (SX.S t)), some (.int (n : Int)), some (.ref l), some (.ref d), y4, y5, y6, none] ∧ Same H Hx ∧ Hx q = some (.lst (((partsL t).map SX.S).map V.str)) ∧ foldO (ringP n) (List.range n, []) ((partsL t).take i) = some st ∧ RdAt n Hx l d st) ⟨_, none, none, none, rfl, s03, hq3, by rw [List.take_zero] <;> rfl, R3⟩ ?_ ?_ ?_⟩
    · rintro i σ Hx _ ⟨_, _, _, _, _, _, h, _⟩; exact sqL h
    · rintro i x σ Hx hx ⟨st, y4, y5, y6, rfl, sx, hqx, hfo, Rx⟩
      obtain ⟨part, hpart, rfl⟩ := str_get hx
      have hpl := hsz part (List.mem_of_getElem? hpart)
      have hnext : foldO (ringP n) (List.range n, []) ((partsL t).take (i + 1)) = ringP n st part := by rw [take_more hpart]; exact foldO_snoc hfo
      have hfail : ringP n st part = none → ∀ H', Same H H' → E (.ref g.NotRead) none H' := fun h => hfold (by
        rw [← List.take_append_drop (i + 1) (partsL t)]
        exact foldO_pre (by rw [hnext, h]))
      show tSeq _ _ _ (List.set _ 4 (some (V.str (SX.S part)))) Hx
      walk_at "re"
      walk_at "sq"
      walk_at "st"
      refine w_lc (w_ilist ?_)
      refine w_m1 ?_
      walk_at "ex"
      refine ⟨⟨_, rfl⟩, ?_⟩
      walk_at "ex"
      refine split_new (by decide) (by decide) (by omega) fun w hw => ?_
      have hwsz := (spl_size [32] part 0 []).1
      have hwsz2 : ∀ p ∈ TL.spl [32] 0 [] part, p.length ≤ 10000 := fun p hp => by
        have := (spl_size [32] part 0 []).2 p hp
        have : p.length ≤ 0 + part.length := this
        omega
      generalize ews : TL.spl [32] 0 [] part = ws at *
      have sw : Same Hx (upd Hx w (.lst ((ws.map SX.S).map V.str))) := (Same.refl Hx).new hw
      have hww : (upd Hx w (.lst ((ws.map SX.S).map V.str))) w = some (.lst ((ws.map SX.S).map V.str)) := upd_same
      generalize upd Hx w (.lst ((ws.map SX.S).map V.str)) = Hw at *
      have sxw := sx.trans sw
      have hring : ∀ {r}, seatsP n ws = some r → ringP n st part = if r.length < 2 then none else foldO (stepP r) st (List.range r.length) := fun {r} h => by
        unfold ringP
        rw [ews, h] <;> rfl
      refine ⟨w, rfl, ⟨_, sqL hww⟩, fun D hD => lc_list (K := K) (a := w) (xs := (ws.map SX.S).map V.str) (fun j Hy => Same Hw Hy ∧ ∃ r, seatsP n (ws.take j) = some r ∧ Hy D = some (.lst (vN r))) ?_ ?_ ?_ ?_⟩
      · exact ⟨(Same.refl Hw).new hD, [], by rw [List.take_zero] <;> rfl, upd_same⟩
      · rintro j Hy _ ⟨sy, _⟩; exact sqL (sy _ _ hww)
      · rintro j x Hy hx' ⟨sy, r, hr, hDy⟩
        obtain ⟨word, hword, rfl⟩ := str_get hx'
        refine ⟨rfl, ?_⟩
        walk_at "ex"
        refine ⟨word, n, rfl, by have := hwsz2 word (List.mem_of_getElem? hword); omega, fun hnone => ?_, fun v hv => ?_⟩
        · refine hfail ?_ _ (sxw.trans sy)
          unfold ringP
          have : seatsP n ws = none := by
            rw [← List.take_append_drop (j + 1) ws, seatsP_app, take_more hword, seatsP_snoc, hr]
            show Option.bind ((seatP n word).map _) _ = none
            rw [hnone] <;> rfl
          rw [ews, this] <;> rfl
        · have hrl := seatsP_len hr
          rw [List.length_take] at hrl
          refine ⟨vN r, hDy, by rw [vN_len]; exact zlt (by omega), sy.up hD, r ++ [v], ?_, ?_⟩
          · rw [take_more hword, seatsP_snoc, hr]
            show (seatP n word).map _ = _
            rw [hv] <;> rfl
          · rw [upd_same, ← vN_app]
      · rintro Hy ⟨sy, r, hr, hDy⟩
        have hlw : ((ws.map SX.S).map V.str).length = ws.length := by rw [List.length_map, List.length_map]
        rw [hlw, List.take_length] at hr
        have hrl := seatsP_len hr
        have hrlt := seatsP_lt hr
        have sxy := sxw.trans sy
        have Ry := (Rx.mono sw).mono sy
        have hqy := sy _ _ (sw _ _ hqx)
        have eR := hring hr
        have hDl : D ≠ l := fun z => by rw [z] at hD; have := sw _ _ Rx.row; rw [hD] at this; cases this
        have hDd : D ≠ d := fun z => by
          obtain ⟨kvs, hk, _⟩ := Rx.dic
          rw [z] at hD; have := sw _ _ hk; rw [hD] at this; cases this
        walk_at "re"
        walk_at "sq"
        walk_at "st"
        walk_at "ex"
        refine len_LN (sqL hDy) ?_
        walk_at "ex"
        refine if_d (fun c2 => ?_) (fun c2 => ?_)
        · exact w_raise (hfail (by rw [eR, if_pos (by omega)]) _ sxy)
        rw [if_neg (by omega)] at eR
        walk_at "re"
        walk_at "st"
        walk_at "re"
        refine len_LN (sqL hDy) ?_
        refine w_for1 (by omega) (fun j σ Hz => ∃ (st' : RdSt) (y6 : Option V), σ = [some (.str (SX.S t)), some (.int (n : Int)), some (.ref l), some (.ref d), some (.str (SX.S part)), some (.ref D), y6, none] ∧ Same H Hz ∧ Hz q = some (.lst (((partsL t).map SX.S).map V.str)) ∧ Hz D = some (.lst (vN r)) ∧ foldO (stepP r) st (List.range j) = some st' ∧ RdAt n Hz l d st') ⟨st, y6, rfl, sxy, hqy, hDy, rfl, Ry⟩ ?_ ?_
        · rintro j σ Hz hj ⟨st', y6, rfl, sz, hqz, hDz, hfo', Rz⟩
          obtain ⟨kvs, hkd, hDK, hkl⟩ := Rz.dic
          have hrj : r.getD j 0 < n := hrlt _ (List.mem_of_getElem? (getD_at hj))
          have hnx : foldO (stepP r) st (List.range (j + 1)) = stepP r st' j := by rw [List.range_succ]; exact foldO_snoc hfo'
          have h16' : st'.2.length ≤ 16 := by
            have := nd_sub_len (m := List.range n) Rz.nd fun x hx => List.mem_range.mpr (Rz.lt x hx)
            rw [List.length_range] at this
            omega
          walk_at "sq"
          walk_at "st"
          walk_at "ex"
          refine w_din ?_
          walk_at "ex"
          refine ix_LN (i := j) (sqL hDz) hj rfl ?_
          walk_at "ex"
          refine ⟨d, _, rfl, DGet.k (k := Sum.inl ((r.getD j 0 : Nat) : Int)) hkd, _, rfl, ?_⟩
          refine if_b (fun e => ?_) (fun e => ?_)
          · refine w_raise (hfail ?_ _ sz)
            rw [eR, range_cut (j := j) (by omega)]
            refine foldO_pre ?_
            rw [hnx]
            unfold stepP
            rw [if_pos ((hDK _).mp e)]
          · have hnin : r.getD j 0 ∉ st'.2 := fun h => by rw [(hDK _).mpr h] at e; cases e
            walk_at "re"
            walk_at "sq"
            refine w_dput ?_
            walk_at "re"
            refine ix_LN (i := j) (sqL hDz) hj rfl ?_
            refine ⟨d, _, rfl, DPut.k (k := Sum.inl ((r.getD j 0 : Nat) : Int)) hkd (zlt (by omega)), ?_⟩
            have sp1 : Same H (upd Hz d (.dK (putK kvs (Sum.inl ((r.getD j 0 : Nat) : Int)) (V.bl true)))) := sz.up hd0
            have hD1 : (upd Hz d (.dK (putK kvs (Sum.inl ((r.getD j 0 : Nat) : Int)) (V.bl true)))) D = some (.lst (vN r)) := by rw [upd_ne hDd]; exact hDz
            have hl1' : (upd Hz d (.dK (putK kvs (Sum.inl ((r.getD j 0 : Nat) : Int)) (V.bl true)))) l = some (.lst (vN st'.1)) := by rw [upd_ne hld]; exact Rz.row
            have hq1' : (upd Hz d (.dK (putK kvs (Sum.inl ((r.getD j 0 : Nat) : Int)) (V.bl true)))) q = some (.lst (((partsL t).map SX.S).map V.str)) := by rw [upd_ne hqd]; exact hqz
            have hd1' : (upd Hz d (.dK (putK kvs (Sum.inl ((r.getD j 0 : Nat) : Int)) (V.bl true)))) d = some (.dK (putK kvs (Sum.inl ((r.getD j 0 : Nat) : Int)) (V.bl true))) := upd_same
            generalize upd Hz d (.dK (putK kvs (Sum.inl ((r.getD j 0 : Nat) : Int)) (V.bl true))) = Hp_ at *
            walk_at "st"
            walk_at "re"
            refine len_LN (sqL hD1) ?_
            refine mod_I (by omega) ?_
            have em : ((j : Int) + 1) % (r.length : Int) = (((j + 1) % r.length : Nat) : Int) := by rw [Int.natCast_emod] <;> rfl
            rw [em]
            refine ix_LN (i := (j + 1) % r.length) (sqL hD1) (Nat.mod_lt _ (by omega)) rfl ?_
            walk_at "re"
            refine ix_LN (i := j) (sqL hD1) hj rfl ?_
            refine set_N (i := r.getD j 0) hl1' (by rw [Rz.len]; exact hrj) rfl ?_
            refine ⟨(st'.1.set (r.getD j 0) (r.getD ((j + 1) % r.length) 0), st'.2 ++ [r.getD j 0]), some (.int (j : Int)), rfl, sp1.up hl0, by rw [upd_ne hql]; exact hq1', by rw [upd_ne hDl]; exact hD1, ?_, ⟨upd_same, by show (st'.1.set _ _).length = n; rw [List.length_set]; exact Rz.len, ⟨_, by rw [upd_ne hld.symm]; exact hd1', (hDK.put _ _).cong fun x => ?_, ?_⟩, ?_, ?_⟩⟩
            · rw [hnx]
              unfold stepP
              rw [if_neg hnin]
            · show x ∈ st'.2 ∨ x = r.getD j 0 ↔ x ∈ st'.2 ++ [r.getD j 0]
              rw [List.mem_append, List.mem_singleton]
            · have := putK_le kvs (Sum.inl ((r.getD j 0 : Nat) : Int)) (V.bl true)
              show _ ≤ (st'.2 ++ [r.getD j 0]).length
              rw [List.length_append]
              show _ ≤ st'.2.length + 1
              omega
            · exact List.nodup_append.mpr ⟨Rz.nd, List.pairwise_singleton _ _, fun a ha b hb e => hnin (by rw [List.mem_singleton.mp hb] at e; rw [← e]; exact ha)⟩
            · intro x hx
              rcases List.mem_append.mp hx with h | h
              · exact Rz.lt x h
              · rw [List.mem_singleton.mp h]; exact hrj
        · rintro σ Hz ⟨st', y6, rfl, sz, hqz, hDz, hfo', Rz⟩
          exact ⟨st', _, _, _, rfl, sz, hqz, by rw [hnext, eR]; exact hfo', Rz⟩
    · rintro σ Hx ⟨st, y4, y5, y6, rfl, sx, hqx, hfo, Rx⟩
      have hlw : (((partsL t).map SX.S).map V.str).length = (partsL t).length := by rw [List.length_map, List.length_map]
      rw [hlw, List.take_length] at hfo
      walk_at "rd"
      refine tup_L (sqL Rx.row) fun r hr => ?_
      exact hdone st hfo r _ (sx.new hr) (sx.free hr) upd_same
  · refine w_if ?_
    refine w_or ?_
    walk_at "ex"
    refine len_SL (by omega) ?_
    walk_at "ex"
    refine if_d (fun c => if_t rfl (w_raise (bad (.inl (by omega)) _ s1))) (fun c1 => ?_)
    obtain ⟨ca, ta, et⟩ : ∃ ca ta, t = ca :: ta := by
      cases t with
      | nil => exact absurd (show (0 : Int) < 2 by decide) c1
      | cons a b => exact ⟨a, b, rfl⟩
    obtain ⟨cz, ez⟩ : ∃ cz, t.getLast? = some cz := by
      cases e : t.getLast? with
      | none => rw [List.getLast?_eq_none_iff] at e; rw [e] at et; cases et
      | some c => exact ⟨c, rfl⟩
    refine w_or ?_
    walk_at "ex"
    refine ix_SL (i := 0) (c := ca) (by rw [et] <;> rfl) (by omega) rfl ?_
    walk_at "ex"
    refine ne_SL ?_
    walk_at "ex"
    refine if_nd (fun c => if_t rfl (w_raise (bad (.inr (.inl ?_)) _ s1))) (fun c2 => ?_)
    · rw [et]
      intro h
      have : ca = 40 := Option.some.inj h
      exact c (by rw [this])
    walk_at "ex"
    refine ix_Sl (c := cz) ez (by omega) rfl ?_
    walk_at "ex"
    refine ne_SL ?_
    walk_at "ex"
    refine if_nd (fun c => w_raise (bad (.inr (.inr ?_)) _ s1)) (fun c3 => key _ _ ⟨rfl, rfl, ?_⟩)
    · rw [ez]
      intro h
      have : cz = 41 := Option.some.inj h
      exact c (by rw [this])
    · rintro (h | h | h)
      · omega
      · refine h ?_
        have : ca = 40 := by simpa using c2
        rw [et, this] <;> rfl
      · refine h ?_
        have : cz = 41 := by simpa using c3
        rw [ez, this]
end Shf

/-! the texts of seatings: mathematics -/
namespace Shf
open PySem L2
def bodyT (r : List Nat) : List Nat := TL.joinL [32] (r.map TL.numL)
def ringT (r : List Nat) : List Nat := 40 :: (bodyT r ++ [41])
def textT (rs : List (List Nat)) : List Nat := rs.flatMap ringT
def shownT (rs : List (List Nat)) : List Nat := if textT rs = [] then [40, 41] else textT rs
theorem joinL_len (S : List Nat) : ∀ l : List (List Nat), (TL.joinL S l).length ≤ (l.map (·.length)).sum + l.length * S.length
  | [] => Nat.zero_le _
  | [p] => by
    show p.length ≤ p.length + 0 + 1 * S.length
    omega
  | p :: q :: r => by
    have ih := joinL_len S (q :: r)
    show (p ++ (S ++ TL.joinL S (q :: r))).length ≤ p.length + ((q :: r).map (·.length)).sum + ((q :: r).length + 1) * S.length
    rw [List.length_append, List.length_append, Nat.succ_mul]
    omega
theorem sum_le {c : Nat} : ∀ {l : List Nat}, (∀ x ∈ l, x ≤ c) → l.sum ≤ c * l.length
  | [], _ => Nat.zero_le _
  | x :: l, h => by
    have h1 := h x List.mem_cons_self
    have h2 := sum_le (l := l) fun y hy => h y (List.mem_cons_of_mem _ hy)
    rw [List.sum_cons, List.length_cons, Nat.mul_succ]
    omega
theorem numL_2 {k : Nat} (h : k < 100) : (TL.numL k).length ≤ 2 := TL.numL_len (by decide) (by omega)
theorem nums_sum {r : List Nat} (h : ∀ x ∈ r, x < 100) : ((r.map TL.numL).map (·.length)).sum ≤ 2 * r.length := by
  have := sum_le (c := 2) (l := (r.map TL.numL).map (·.length)) fun x hx => by
    obtain ⟨w, hw, rfl⟩ := List.mem_map.mp hx
    obtain ⟨k, hk, rfl⟩ := List.mem_map.mp hw
    exact numL_2 (h k hk)
  rw [List.length_map, List.length_map] at this
  exact this
theorem bodyT_len {r : List Nat} (h : ∀ x ∈ r, x < 100) : (bodyT r).length ≤ 3 * r.length := by
  have a := joinL_len [32] (r.map TL.numL)
  have b := nums_sum h
  rw [List.length_map] at a
  have a : (bodyT r).length ≤ ((r.map TL.numL).map (·.length)).sum + r.length * 1 := a
  omega
theorem textT_snoc (rs : List (List Nat)) (r : List Nat) : textT (rs ++ [r]) = textT rs ++ ringT r := by
  unfold textT
  rw [List.flatMap_append, List.flatMap_cons, List.flatMap_nil, List.append_nil]
theorem textT_len : ∀ {rs : List (List Nat)}, (∀ r ∈ rs, r.length ≤ 16 ∧ ∀ x ∈ r, x < 100) → (textT rs).length ≤ 50 * rs.length
  | [], _ => Nat.zero_le _
  | r :: rs, h => by
    obtain ⟨h1, h2⟩ := h r List.mem_cons_self
    have ih := textT_len (rs := rs) fun y hy => h y (List.mem_cons_of_mem _ hy)
    have b := bodyT_len h2
    have e : textT (r :: rs) = ringT r ++ textT rs := by unfold textT; rw [List.flatMap_cons]
    rw [e, List.length_append, List.length_cons]
    have : (ringT r).length = (bodyT r).length + 1 + 1 := by unfold ringT; rw [List.length_cons, List.length_append] <;> rfl
    omega
theorem ringsK_mem {n : Nat} {a : List Nat} (h : IsP n a) {m : Nat} (hm : m ≤ n) {r : List Nat} (hr : r ∈ ringsK a m) : r.length ≤ n ∧ ∀ x ∈ r, x < n := by
  obtain ⟨k, hk, rfl⟩ := List.mem_map.mp hr
  have hk := List.mem_range.mp (List.mem_filter.mp hk).1
  exact ⟨by rw [ring_len]; exact (per_spec h (by omega)).2.2.2, fun x hx => ring_lt h (by omega) hx⟩
theorem ringsK_ok {n : Nat} {a : List Nat} (h : IsP n a) (h16 : n ≤ 16) {m : Nat} (hm : m ≤ n) : ∀ r ∈ ringsK a m, r.length ≤ 16 ∧ ∀ x ∈ r, x < 100 := fun r hr => by
  obtain ⟨h1, h2⟩ := ringsK_mem h hm hr
  exact ⟨by omega, fun x hx => by have := h2 x hx; omega⟩
theorem textK_len {n : Nat} {a : List Nat} (h : IsP n a) (h16 : n ≤ 16) {m : Nat} (hm : m ≤ n) : (textT (ringsK a m)).length ≤ 800 := by
  have h1 := textT_len (ringsK_ok h h16 hm)
  have := ringsK_len a m
  omega
theorem shownT_len {n : Nat} {a : List Nat} (h : IsP n a) (h16 : n ≤ 16) : (shownT (ringsN a)).length ≤ 800 := by
  unfold shownT
  split
  · decide
  · unfold ringsN; rw [h.len]; exact textK_len h h16 (Nat.le_refl _)
end Shf

/-! shown, the law's written, k07 -/
namespace Shf
open PySem L2
def vW (l : List (List Nat)) : List V := (l.map SX.S).map V.str
theorem vW_snoc (l : List (List Nat)) (w : List Nat) : vW l ++ [.str (SX.S w)] = vW (l ++ [w]) := by
  unfold vW
  rw [List.map_append, List.map_append] <;> rfl
theorem vW_len (l : List (List Nat)) : (vW l).length = l.length := by unfold vW; rw [List.length_map, List.length_map]
theorem str_num {H : Hp} {Q : VK} {x : Nat} (h : x < 100) (q : Q (.str (SX.S (TL.numL x))) H) : rStrI [.int (x : Int)] H Q := by
  refine ⟨(x : Int), rfl, ?_, ?_⟩
  · have : ((x : Int)).natAbs.log2 < 7 := by
      rw [Int.natAbs_natCast]
      rcases Nat.eq_zero_or_pos x with e | e
      · subst e; decide
      · exact (Nat.log2_lt (by omega)).mpr (by omega)
    omega
  · rw [← SX.num_S]at q
    exact q
theorem join_nums {K : PySem.W.Frag} {H : Hp} {Q : VK} {D : Addr} {r : List Nat} (hD : H D = some (.lst (vW (r.map TL.numL)))) (h1 : r.length ≤ 16) (h2 : ∀ x ∈ r, x < 100) (q : Q (.str (SX.S (bodyT r))) H) : rJoin K (.str (SX.S [32])) [.ref D] H Q := by
  refine ⟨SX.S [32], D, (r.map TL.numL).map SX.S, rfl, rfl, .inl (sqL hD), ?_, ?_⟩
  · rw [SX.lens, List.length_map, List.length_map, SX.S_len]
    have := nums_sum h2
    show _ + _ * 1 ≤ _
    omega
  · rw [SX.join_S]
    exact q
theorem add_S {H : Hp} {Q : VK} {a b : List Nat} (h1 : a.length ≤ 40000) (h2 : b.length ≤ 40000) (q : Q (.str (SX.S (a ++ b))) H) : rAddS (.str (SX.S a)) (.str (SX.S b)) H Q := by
  refine ⟨SX.S a, SX.S b, rfl, rfl, ?_, ?_⟩
  · rw [SX.S_len, SX.S_len]; exact zl (by omega)
  · rw [SX.S_cat]; exact q
/-- whole + "(" + body + ")" -/
theorem ring_text (rs : List (List Nat)) (r : List Nat) : textT rs ++ [40] ++ bodyT r ++ [41] = textT (rs ++ [r]) := by
  rw [textT_snoc]
  unfold ringT
  rw [List.append_assoc, List.append_assoc] <;> rfl
end Shf

/-! a text read sign by sign is read: mathematics -/
namespace Shf
open PySem L2
structure DSt where
  row : List Nat
  used : List Nat
  ring : List Nat
  word : List Nat
  ins : Bool
/-- a ring laid into the row, the law's way -/
def laid (r row : List Nat) : List Nat := (List.range r.length).foldl (fun row k => row.set (r.getD ((k + (r.length - 1)) % r.length) 0) (r.getD k 0)) row
def seatU (n : Nat) (used w : List Nat) : Option Nat := match seatP n w with
  | none => none
  | some v => if v ∈ used then none else some v
def dstep (n : Nat) (st : DSt) (c : Nat) : Option DSt :=
  if st.ins = true ∧ (c = 32 ∨ c = 41) then
    match seatU n st.used st.word with
    | none => none
    | some v => if c = 41 then (if st.ring.length + 1 < 2 then none else some ⟨laid (st.ring ++ [v]) st.row, st.used ++ [v], st.ring ++ [v], [], false⟩)
      else some ⟨st.row, st.used ++ [v], st.ring ++ [v], [], true⟩
  else if st.ins = true ∧ digB c = true then some { st with word := st.word ++ [c] }
  else if c = 40 ∧ st.ins = false then some { st with ring := [], ins := true }
  else none
def fin (st : DSt) : Option (List Nat) := if st.ins = true then none else some st.row
def dueP (n : Nat) (t : List Nat) : Option (List Nat) :=
  if t = [40, 41] then some (List.range n) else if t = [] then none
  else (foldO (dstep n) ⟨List.range n, [], [], [], false⟩ t).bind fin
/-! ### laying a ring: two orders -/
def layF (r : List Nat) : List Nat → List Nat → List Nat := fun row l => l.foldl (fun row j => row.set (r.getD j 0) (r.getD ((j + 1) % r.length) 0)) row
theorem layF_set {r : List Nat} {x v : Nat} : ∀ {l : List Nat} {row : List Nat}, (∀ j ∈ l, r.getD j 0 ≠ x) → layF r (row.set x v) l = (layF r row l).set x v
  | [], _, _ => rfl
  | j :: l, row, h => by
    show layF r ((row.set x v).set (r.getD j 0) _) l = (layF r (row.set (r.getD j 0) _) l).set x v
    rw [List.set_comm _ _ (fun e => h j List.mem_cons_self e.symm)]
    exact layF_set fun j hj => h j (List.mem_cons_of_mem _ hj)
theorem laid_eq {r : List Nat} (hr : r.Nodup) (row : List Nat) : laid r row = layF r row (List.range r.length) := by
  cases e : r.length with
  | zero => unfold laid layF; rw [e] <;> rfl
  | succ L =>
    have h1 : laid r row = layF r (row.set (r.getD L 0) (r.getD 0 0)) (List.range L) := by
      unfold laid layF
      rw [e, List.range_succ_eq_map, List.foldl_cons, List.foldl_map]
      rw [show (0 + (L + 1 - 1)) % (L + 1) = L by rw [Nat.zero_add, Nat.add_sub_cancel, Nat.mod_eq_of_lt (by omega)]]
      have aux : ∀ (l : List Nat) (row : List Nat), (∀ j ∈ l, j < L) → l.foldl (fun row k => row.set (r.getD ((k.succ + (L + 1 - 1)) % (L + 1)) 0) (r.getD k.succ 0)) row = l.foldl (fun row j => row.set (r.getD j 0) (r.getD ((j + 1) % (L + 1)) 0)) row := fun l => by
        induction l with
        | nil => intro row _; rfl
        | cons j l ih =>
          intro row h
          have hj := h j List.mem_cons_self
          rw [List.foldl_cons, List.foldl_cons, ih _ fun k hk => h k (List.mem_cons_of_mem _ hk)]
          congr 2
          · congr 1
            rw [show j.succ + (L + 1 - 1) = j + (L + 1) by omega, Nat.add_mod_right, Nat.mod_eq_of_lt (by omega)]
          · congr 1
            rw [Nat.mod_eq_of_lt (by omega)]
      exact aux _ _ fun j hj => List.mem_range.mp hj
    rw [h1, layF_set fun j hj z => ?_]
    · rw [List.range_succ]
      unfold layF
      rw [List.foldl_append, List.foldl_cons, List.foldl_nil, e, Nat.mod_self]
    · have hj := List.mem_range.mp hj
      have := nd_getD hr (by omega) (by omega) z
      omega
theorem stepP_some {r : List Nat} {s : RdSt} : ∀ {m : Nat}, m ≤ r.length → ∀ {s' : RdSt}, foldO (stepP r) s (List.range m) = some s' → s'.2 = s.2 ++ r.take m ∧ s'.1 = layF r s.1 (List.range m) ∧ (r.take m).Nodup ∧ ∀ x ∈ r.take m, x ∉ s.2
  | 0, _, s', h => by
    have h : some s = some s' := h
    rw [← Option.some.inj h]
    exact ⟨(List.append_nil _).symm, rfl, List.nodup_nil, fun x hx => by cases hx⟩
  | m + 1, hm, s', h => by
    rw [List.range_succ, foldO_app] at h
    cases e : foldO (stepP r) s (List.range m) with
    | none => rw [e] at h; cases h
    | some t =>
      rw [e] at h
      obtain ⟨i1, i2, i3, i4⟩ := stepP_some (m := m) (by omega) e
      have h : (stepP r t m).bind (fun t => some t) = some s' := h
      unfold stepP at h
      have eg : r[m]? = some (r.getD m 0) := getD_at (by omega)
      by_cases c : r.getD m 0 ∈ t.2
      · rw [if_pos c] at h; cases h
      · rw [if_neg c] at h
        have h : (t.1.set (r.getD m 0) (r.getD ((m + 1) % r.length) 0), t.2 ++ [r.getD m 0]) = s' := Option.some.inj h
        subst h
        rw [take_more eg]
        rw [i1] at c
        refine ⟨?_, ?_, ?_, ?_⟩
        · show t.2 ++ _ = _
          rw [i1, List.append_assoc]
        · show t.1.set _ _ = _
          rw [i2, List.range_succ]
          unfold layF
          rw [List.foldl_append] <;> rfl
        · exact List.nodup_append.mpr ⟨i3, List.pairwise_singleton _ _, fun a ha b hb z => c (List.mem_append.mpr (.inr (by rw [List.mem_singleton.mp hb] at z; rw [← z]; exact ha)))⟩
        · intro x hx hs
          rcases List.mem_append.mp hx with hx | hx
          · exact i4 x hx hs
          · exact c (List.mem_append.mpr (.inl (by rw [← List.mem_singleton.mp hx]; exact hs)))
theorem stepP_ok {r : List Nat} {s : RdSt} (hn : r.Nodup) (hd : ∀ x ∈ r, x ∉ s.2) : ∀ {m : Nat}, m ≤ r.length → ∃ s', foldO (stepP r) s (List.range m) = some s'
  | 0, _ => ⟨s, rfl⟩
  | m + 1, hm => by
    obtain ⟨t, e⟩ := stepP_ok hn hd (m := m) (by omega)
    obtain ⟨i1, _, _, _⟩ := stepP_some (by omega) e
    rw [List.range_succ, foldO_snoc e]
    unfold stepP
    have eg : r[m]? = some (r.getD m 0) := getD_at (by omega)
    rw [if_neg]
    · exact ⟨_, rfl⟩
    · rw [i1]
      intro h
      rcases List.mem_append.mp h with h | h
      · exact hd _ (List.mem_of_getElem? eg) h
      · have nd := hn
        rw [← List.take_append_drop (m + 1) r, take_more eg] at nd
        exact (List.nodup_append.mp (List.nodup_append.mp nd).1).2.2 _ h _ (List.mem_singleton.mpr rfl) rfl
/-- a ring of reading, in one -/
theorem rdring_ok {r : List Nat} {s : RdSt} (hn : r.Nodup) (hd : ∀ x ∈ r, x ∉ s.2) : foldO (stepP r) s (List.range r.length) = some (laid r s.1, s.2 ++ r) := by
  obtain ⟨s', e⟩ := stepP_ok hn hd (Nat.le_refl _)
  obtain ⟨i1, i2, _, _⟩ := stepP_some (Nat.le_refl _) e
  rw [List.take_length] at i1
  rw [e, laid_eq hn, ← i1, ← i2]
theorem ring_bad {r : List Nat} {s : RdSt} (h : ¬ (r.Nodup ∧ ∀ x ∈ r, x ∉ s.2)) : foldO (stepP r) s (List.range r.length) = none := by
  cases e : foldO (stepP r) s (List.range r.length) with
  | none => rfl
  | some s' =>
    obtain ⟨_, _, i3, i4⟩ := stepP_some (Nat.le_refl _) e
    rw [List.take_length] at i3 i4
    exact absurd ⟨i3, i4⟩ h
theorem ringP_none {n : Nat} {s : RdSt} {p : List Nat} (h : ∀ r, seatsP n (TL.spl [32] 0 [] p) = some r → ¬ (r.Nodup ∧ ∀ x ∈ r, x ∉ s.2)) : ringP n s p = none := by
  unfold ringP
  cases e : seatsP n (TL.spl [32] 0 [] p) with
  | none => rfl
  | some r =>
    show (if r.length < 2 then none else _) = none
    by_cases c : r.length < 2
    · rw [if_pos c]
    · rw [if_neg c, ring_bad (h r e)]
/-! ### words -/
theorem spl_32 (acc r : List Nat) : TL.spl [32] 0 acc (32 :: r) = acc :: TL.spl [32] 0 [] r := TL.spl_hit (by rfl)
theorem spl_c {c : Nat} (h : c ≠ 32) (acc r : List Nat) : TL.spl [32] 0 acc (c :: r) = TL.spl [32] 0 (acc ++ [c]) r := TL.spl_miss (TL.pre_of_head _ _ h)
theorem seatP_bad {n c : Nat} {w : List Nat} (h : c ∈ w) (hc : digB c = false) : seatP n w = none := by
  unfold seatP
  by_cases e : w = [] ∨ 2 < w.length ∨ (w.head? = some 48 ∧ 1 < w.length)
  · rw [if_pos e]
  · rw [if_neg e, if_neg]
    intro z
    rw [List.all_eq_true.mp z c h] at hc
    cases hc
theorem seatsP_cons_none {n : Nat} {w : List Nat} {ws : List (List Nat)} (h : seatP n w = none) : seatsP n (w :: ws) = none := by
  show (match seatP n w with | none => none | some v => (seatsP n ws).map (v :: ·)) = _
  rw [h]
theorem seatsP_rest_none {n : Nat} {w : List Nat} {ws : List (List Nat)} (h : seatsP n ws = none) : seatsP n (w :: ws) = none := by
  show (match seatP n w with | none => none | some v => (seatsP n ws).map (v :: ·)) = _
  rw [h]
  cases seatP n w <;> rfl
theorem words_bad {n c : Nat} (hc : digB c = false) (h32 : c ≠ 32) : ∀ (l acc : List Nat), c ∈ acc ++ l → seatsP n (TL.spl [32] 0 acc l) = none
  | [], acc, h => by
    rw [List.append_nil] at h
    rw [TL.spl_nil]
    exact seatsP_cons_none (seatP_bad h hc)
  | d :: l, acc, h => by
    by_cases e : d = 32
    · subst e
      rw [spl_32]
      rcases List.mem_append.mp h with h | h
      · exact seatsP_cons_none (seatP_bad h hc)
      · rcases List.mem_cons.mp h with h | h
        · exact absurd h h32
        · exact seatsP_rest_none (words_bad hc h32 l [] h)
    · rw [spl_c e]
      exact words_bad hc h32 l _ (by rw [List.append_assoc]; exact h)
theorem ringP_bad {n c : Nat} {s : RdSt} {p : List Nat} (hc : digB c = false) (h32 : c ≠ 32) (h : c ∈ p) : ringP n s p = none := by
  unfold ringP
  rw [words_bad hc h32 p [] h] <;> rfl
theorem spl_head (S : List Nat) : ∀ (l : List Nat) (k : Nat) (acc : List Nat), ∃ x ys, TL.spl S k acc l = (acc ++ x) :: ys
  | [], k, acc => ⟨[], [], by rw [TL.spl_nil, List.append_nil]⟩
  | c :: r, 0, acc => by
    cases h : TL.pre S (c :: r) with
    | true => rw [TL.spl_hit h]; exact ⟨[], _, by rw [List.append_nil]⟩
    | false =>
      rw [TL.spl_miss h]
      obtain ⟨x, ys, e⟩ := spl_head S r 0 (acc ++ [c])
      exact ⟨c :: x, ys, by rw [e, List.append_assoc] <;> rfl⟩
  | c :: r, k + 1, acc => by
    show ∃ x ys, TL.spl S k acc r = (acc ++ x) :: ys
    exact spl_head S r k acc
/-- what the sign by sign reader holds after acc -/
def InvD (n : Nat) (s : RdSt) (acc : List Nat) (st : DSt) : Prop := ∃ ws w vs, (∀ e, TL.spl [32] 0 [] (acc ++ e) = ws ++ TL.spl [32] 0 w e) ∧ w.all digB = true ∧ seatsP n ws = some vs ∧ vs.Nodup ∧ (∀ x ∈ vs, x ∉ s.2) ∧ st = ⟨s.1, s.2 ++ vs, vs, w, true⟩
theorem inv_nil (n : Nat) (s : RdSt) : InvD n s [] ⟨s.1, s.2, [], [], true⟩ := ⟨[], [], [], fun _ => rfl, rfl, rfl, List.nodup_nil, (fun x hx => by cases hx), by rw [List.append_nil]⟩
theorem fold_cons {n : Nat} {st : DSt} {c : Nat} {l : List Nat} : foldO (dstep n) st (c :: l) = (dstep n st c).bind fun t => foldO (dstep n) t l := rfl
theorem part_none {n : Nat} {s : RdSt} {c : Nat} {acc mid : List Nat} (h : ∀ e, ringP n s (acc ++ c :: e) = none) : foldO (ringP n) s (TL.spl [41, 40] 0 (acc ++ [c]) mid) = none := by
  obtain ⟨x, ys, e⟩ := spl_head [41, 40] mid 0 (acc ++ [c])
  rw [e, List.append_assoc]
  show (ringP n s (acc ++ c :: x)).bind _ = none
  rw [h x] <;> rfl
theorem dup_snoc {s vs : List Nat} {v : Nat} (h1 : vs.Nodup) (h2 : ∀ x ∈ vs, x ∉ s) (h : v ∉ s ++ vs) : (vs ++ [v]).Nodup ∧ ∀ x ∈ vs ++ [v], x ∉ s := by
  refine ⟨List.nodup_append.mpr ⟨h1, List.pairwise_singleton _ _, fun a ha b hb z => h (List.mem_append.mpr (.inr (by rw [List.mem_singleton.mp hb] at z; rw [← z]; exact ha)))⟩, fun x hx hs => ?_⟩
  rcases List.mem_append.mp hx with hx | hx
  · exact h2 x hx hs
  · exact h (List.mem_append.mpr (.inl (by rw [← List.mem_singleton.mp hx]; exact hs)))
theorem dup_bad {s vs r : List Nat} {v : Nat} (h : v ∈ s ++ vs) : ¬ ((vs ++ v :: r).Nodup ∧ ∀ x ∈ vs ++ v :: r, x ∉ s) := by
  rintro ⟨h1, h2⟩
  rcases List.mem_append.mp h with h | h
  · exact h2 v (List.mem_append.mpr (.inr List.mem_cons_self)) h
  · exact (List.nodup_append.mp h1).2.2 v h v List.mem_cons_self rfl
theorem seatsP_two {n : Nat} {ws us : List (List Nat)} {vs r : List Nat} {w : List Nat} (h : seatsP n ws = some vs) (hr : seatsP n (ws ++ w :: us) = some r) : ∃ v r', seatP n w = some v ∧ seatsP n us = some r' ∧ r = vs ++ v :: r' := by
  rw [seatsP_app, h] at hr
  have hr : (seatsP n (w :: us)).map (vs ++ ·) = some r := hr
  have e0 : seatsP n (w :: us) = (match seatP n w with | none => none | some v => (seatsP n us).map (v :: ·)) := rfl
  rw [e0] at hr
  cases e1 : seatP n w with
  | none => rw [e1] at hr; cases hr
  | some v =>
    rw [e1] at hr
    cases e2 : seatsP n us with
    | none => rw [e2] at hr; cases hr
    | some r' =>
      rw [e2] at hr
      exact ⟨v, r', rfl, rfl, (Option.some.inj hr).symm⟩
theorem seatU_some {n : Nat} {u w : List Nat} {v : Nat} (h : seatU n u w = some v) : seatP n w = some v ∧ v ∉ u := by
  unfold seatU at h
  cases e : seatP n w with
  | none => rw [e] at h; cases h
  | some x =>
    rw [e] at h
    have h : (if x ∈ u then none else some x) = some v := h
    by_cases c : x ∈ u
    · rw [if_pos c] at h; cases h
    · rw [if_neg c] at h
      cases h
      exact ⟨rfl, c⟩
theorem seatU_none {n : Nat} {u w : List Nat} {v : Nat} (h : seatU n u w = none) (hv : seatP n w = some v) : v ∈ u := by
  unfold seatU at h
  rw [hv] at h
  have h : (if v ∈ u then none else some v) = none := h
  by_cases c : v ∈ u
  · exact c
  · rw [if_neg c] at h; cases h
/-- one more sign of a ring, not its end -/
theorem inv_step {n : Nat} {s : RdSt} {acc : List Nat} {st : DSt} (h : InvD n s acc st) {c : Nat} (hc : c ≠ 41) :
    (∃ st', dstep n st c = some st' ∧ InvD n s (acc ++ [c]) st') ∨ (dstep n st c = none ∧ ∀ e, ringP n s (acc ++ c :: e) = none) := by
  obtain ⟨ws, w, vs, h1, h2, h3, h4, h5, rfl⟩ := h
  by_cases e32 : c = 32
  · subst e32
    have hw : ∀ e, TL.spl [32] 0 [] (acc ++ 32 :: e) = ws ++ w :: TL.spl [32] 0 [] e := fun e => by rw [h1, spl_32]
    have ed : dstep n ⟨s.1, s.2 ++ vs, vs, w, true⟩ 32 = (match seatU n (s.2 ++ vs) w with | none => none | some v => some ⟨s.1, (s.2 ++ vs) ++ [v], vs ++ [v], [], true⟩) := by
      unfold dstep
      rw [if_pos ⟨rfl, .inl rfl⟩]
      cases seatU n (s.2 ++ vs) w <;> rfl
    rw [ed]
    cases es : seatU n (s.2 ++ vs) w with
    | some v =>
      obtain ⟨hv, hu⟩ := seatU_some es
      obtain ⟨n1, n2⟩ := dup_snoc h4 h5 hu
      refine .inl ⟨_, rfl, ws ++ [w], [], vs ++ [v], fun e => ?_, rfl, ?_, n1, n2, ?_⟩
      · rw [List.append_assoc, List.append_assoc]; exact hw e
      · rw [seatsP_snoc, h3]
        show (seatP n w).map _ = _
        rw [hv] <;> rfl
      · rw [List.append_assoc]
    | none =>
      refine .inr ⟨rfl, fun e => ringP_none fun r hr => ?_⟩
      rw [hw] at hr
      obtain ⟨v, r', e1, e2, rfl⟩ := seatsP_two h3 hr
      exact dup_bad (seatU_none es e1)
  · have hno : ¬ (true = true ∧ (c = 32 ∨ c = 41)) := by
      rintro ⟨_, z | z⟩
      · exact e32 z
      · exact hc z
    cases ec : digB c with
    | true =>
      refine .inl ⟨⟨s.1, s.2 ++ vs, vs, w ++ [c], true⟩, ?_, ws, w ++ [c], vs, fun e => ?_, ?_, h3, h4, h5, rfl⟩
      · unfold dstep
        rw [if_neg hno, if_pos ⟨rfl, ec⟩]
      · rw [List.append_assoc]
        show TL.spl [32] 0 [] (acc ++ c :: e) = _
        rw [h1, spl_c e32]
      · rw [List.all_append, h2, List.all_cons, ec] <;> rfl
    | false =>
      refine .inr ⟨?_, fun e => ringP_bad ec e32 (List.mem_append.mpr (.inr List.mem_cons_self))⟩
      unfold dstep
      rw [if_neg hno, if_neg (fun z => by rw [ec] at z; cases z.2), if_neg (fun z => by cases z.2)]
/-- the end of a ring -/
theorem inv_end {n : Nat} {s : RdSt} {acc : List Nat} {st : DSt} (h : InvD n s acc st) :
    (∃ s' r, dstep n st 41 = some ⟨s'.1, s'.2, r, [], false⟩ ∧ ringP n s acc = some s') ∨ (dstep n st 41 = none ∧ ringP n s acc = none) := by
  obtain ⟨ws, w, vs, h1, h2, h3, h4, h5, rfl⟩ := h
  have hw : TL.spl [32] 0 [] acc = ws ++ w :: [] := by have := h1 []; rw [List.append_nil, TL.spl_nil] at this; exact this
  have ed : dstep n ⟨s.1, s.2 ++ vs, vs, w, true⟩ 41 = (match seatU n (s.2 ++ vs) w with | none => none | some v => if vs.length + 1 < 2 then none else some ⟨laid (vs ++ [v]) s.1, (s.2 ++ vs) ++ [v], vs ++ [v], [], false⟩) := by
    unfold dstep
    rw [if_pos ⟨rfl, .inr rfl⟩]
    cases seatU n (s.2 ++ vs) w <;> rfl
  rw [ed]
  cases es : seatU n (s.2 ++ vs) w with
  | some v =>
    obtain ⟨hv, hu⟩ := seatU_some es
    obtain ⟨n1, n2⟩ := dup_snoc h4 h5 hu
    have er : seatsP n (TL.spl [32] 0 [] acc) = some (vs ++ [v]) := by
      rw [hw, seatsP_snoc, h3]
      show (seatP n w).map _ = _
      rw [hv] <;> rfl
    have el : (vs ++ [v]).length = vs.length + 1 := by rw [List.length_append] <;> rfl
    have eR : ringP n s acc = if vs.length + 1 < 2 then none else some (laid (vs ++ [v]) s.1, s.2 ++ (vs ++ [v])) := by
      unfold ringP
      rw [er]
      show (if (vs ++ [v]).length < 2 then none else foldO (stepP (vs ++ [v])) s (List.range (vs ++ [v]).length)) = _
      rw [rdring_ok n1 n2, el]
    rw [eR]
    by_cases c : vs.length + 1 < 2
    · refine .inr ⟨?_, by rw [if_pos c]⟩
      show (if vs.length + 1 < 2 then none else _) = none
      rw [if_pos c]
    · refine .inl ⟨(laid (vs ++ [v]) s.1, s.2 ++ (vs ++ [v])), vs ++ [v], ?_, by rw [if_neg c]⟩
      show (if vs.length + 1 < 2 then none else _) = _
      rw [if_neg c, List.append_assoc]
  | none =>
    refine .inr ⟨rfl, ringP_none fun r hr => ?_⟩
    rw [hw] at hr
    obtain ⟨v, r', e1, e2, rfl⟩ := seatsP_two h3 hr
    exact dup_bad (seatU_none es e1)
theorem out_bad {n : Nat} {st : DSt} (h : st.ins = false) {c : Nat} (hc : c ≠ 40) : dstep n st c = none := by
  unfold dstep
  rw [h, if_neg (fun z => by cases z.1), if_neg (fun z => by cases z.1), if_neg (fun z => hc z.1)]
theorem due_main {n : Nat} : ∀ (k : Nat) (mid : List Nat), mid.length ≤ k → ∀ {s : RdSt} {acc : List Nat} {st : DSt}, InvD n s acc st →
    (foldO (dstep n) st (mid ++ [41])).bind fin = (foldO (ringP n) s (TL.spl [41, 40] 0 acc mid)).map (·.1)
  | k, [], _, s, acc, st, h => by
    rw [TL.spl_nil]
    show ((dstep n st 41).bind fun t => some t).bind fin = ((ringP n s acc).bind fun t => some t).map (·.1)
    rcases inv_end h with ⟨s', r, e1, e2⟩ | ⟨e1, e2⟩
    · rw [e1, e2] <;> rfl
    · rw [e1, e2] <;> rfl
  | k, [c], hk, s, acc, st, h => by
    by_cases e41 : c = 41
    · subst e41
      rw [TL.spl_miss (by rfl)]
      have hb : ringP n s (acc ++ [41]) = none := ringP_bad (c := 41) (by rfl) (by decide) (List.mem_append.mpr (.inr (List.mem_singleton.mpr rfl)))
      rw [TL.spl_nil]
      show (((dstep n st 41).bind fun t => foldO (dstep n) t [41])).bind fin = ((ringP n s (acc ++ [41])).bind _).map _
      rw [hb]
      rcases inv_end h with ⟨s', r, e1, e2⟩ | ⟨e1, e2⟩
      · rw [e1]
        show (foldO (dstep n) ⟨s'.1, s'.2, r, [], false⟩ [41]).bind fin = _
        rw [fold_cons, out_bad rfl (by decide)] <;> rfl
      · rw [e1] <;> rfl
    · rw [TL.spl_miss (TL.pre_of_head _ _ e41)]
      show (((dstep n st c).bind fun t => foldO (dstep n) t [41])).bind fin = _
      rcases inv_step h e41 with ⟨st', e1, e2⟩ | ⟨e1, e2⟩
      · rw [e1]
        exact due_main k [] (Nat.zero_le _) e2
      · rw [e1, part_none e2] <;> rfl
  | 0, c :: d :: r, hk, _, _, _, _ => absurd hk (by rw [List.length_cons]; omega)
  | k + 1, c :: d :: r, hk, s, acc, st, h => by
    rw [List.length_cons, List.length_cons] at hk
    by_cases e41 : c = 41
    · subst e41
      by_cases e40 : d = 40
      · subst e40
        rw [TL.spl_hit (by rfl)]
        have es : TL.spl [41, 40] ([41, 40].length - 1) [] (40 :: r) = TL.spl [41, 40] 0 [] r := rfl
        rw [es]
        show ((dstep n st 41).bind fun t => foldO (dstep n) t (40 :: (r ++ [41]))).bind fin = ((ringP n s acc).bind fun t => foldO (ringP n) t (TL.spl [41, 40] 0 [] r)).map _
        rcases inv_end h with ⟨s', q, e1, e2⟩ | ⟨e1, e2⟩
        · rw [e1, e2]
          show ((dstep n ⟨s'.1, s'.2, q, [], false⟩ 40).bind fun t => foldO (dstep n) t (r ++ [41])).bind fin = (foldO (ringP n) s' (TL.spl [41, 40] 0 [] r)).map _
          have e3 : dstep n ⟨s'.1, s'.2, q, [], false⟩ 40 = some ⟨s'.1, s'.2, [], [], true⟩ := by
            unfold dstep
            rw [if_neg (fun z => by cases z.1), if_neg (fun z => by cases z.1), if_pos ⟨rfl, rfl⟩]
          rw [e3]
          exact due_main k r (by omega) (inv_nil n s')
        · rw [e1, e2] <;> rfl
      · have hp : TL.pre [41, 40] (41 :: d :: r) = false := by
          cases hp : TL.pre [41, 40] (41 :: d :: r) with
          | false => rfl
          | true =>
            have e : [41, d] = [41, 40] := eq_of_beq hp
            exact absurd (List.cons.inj (List.cons.inj e).2).1 e40
        rw [TL.spl_miss hp]
        rw [part_none fun e => ringP_bad (c := 41) (by rfl) (by decide) (List.mem_append.mpr (.inr List.mem_cons_self))]
        show ((dstep n st 41).bind fun t => foldO (dstep n) t (d :: (r ++ [41]))).bind fin = _
        rcases inv_end h with ⟨s', q, e1, e2⟩ | ⟨e1, e2⟩
        · rw [e1]
          show (foldO (dstep n) ⟨s'.1, s'.2, q, [], false⟩ (d :: (r ++ [41]))).bind fin = _
          rw [fold_cons, out_bad rfl e40] <;> rfl
        · rw [e1] <;> rfl
    · rw [TL.spl_miss (TL.pre_of_head _ _ e41)]
      show ((dstep n st c).bind fun t => foldO (dstep n) t (d :: r ++ [41])).bind fin = _
      rcases inv_step h e41 with ⟨st', e1, e2⟩ | ⟨e1, e2⟩
      · rw [e1]
        exact due_main k (d :: r) (by rw [List.length_cons]; omega) e2
      · rw [e1, part_none e2] <;> rfl
theorem due_read (n : Nat) (t : List Nat) : dueP n t = readP n t := by
  unfold dueP readP
  by_cases c0 : t = [40, 41]
  · rw [if_pos c0, if_pos c0]
  rw [if_neg c0, if_neg c0]
  cases t with
  | nil => rw [if_pos rfl, if_pos (.inl (by decide))]
  | cons a rest =>
    rw [if_neg (by simp)]
    by_cases ea : a = 40
    · subst ea
      have e3 : dstep n ⟨List.range n, [], [], [], false⟩ 40 = some ⟨List.range n, [], [], [], true⟩ := by
        unfold dstep
        rw [if_neg (fun z => by cases z.1), if_neg (fun z => by cases z.1), if_pos ⟨rfl, rfl⟩]
      show ((dstep n ⟨List.range n, [], [], [], false⟩ 40).bind fun t => foldO (dstep n) t rest).bind fin = _
      rw [e3]
      show (foldO (dstep n) ⟨List.range n, [], [], [], true⟩ rest).bind fin = _
      rcases List.eq_nil_or_concat rest with rfl | ⟨mid, z, rfl⟩
      · rw [if_pos (.inl (show 1 < 2 by decide))] <;> rfl
      rw [List.concat_eq_append] at *
      have hlast : (40 :: (mid ++ [z])).getLast? = some z := by rw [← List.cons_append, List.getLast?_append] <;> rfl
      by_cases ez : z = 41
      · subst ez
        rw [if_neg, due_main mid.length mid (Nat.le_refl _) (inv_nil n (List.range n, []))]
        · have : partsL (40 :: (mid ++ [41])) = TL.spl [41, 40] 0 [] mid := by
            unfold partsL innL
            have hlen : (40 :: (mid ++ [41])).length = mid.length + 2 := by rw [List.length_cons, List.length_append] <;> rfl
            rw [hlen]
            show TL.spl [41, 40] 0 [] ((mid ++ [41]).take (mid.length + 2 - 2)) = _
            rw [Nat.add_sub_cancel, List.take_append_of_le_length (Nat.le_refl _), List.take_length]
          rw [this]
        · rintro (h | h | h)
          · rw [List.length_cons, List.length_append] at h
            have h : mid.length + 1 + 1 < 2 := h
            omega
          · exact h rfl
          · exact h hlast
      · rw [if_pos (.inr (.inr (by rw [hlast]; intro h; exact ez (Option.some.inj h))))]
        rw [foldO_app]
        cases ef : foldO (dstep n) ⟨List.range n, [], [], [], true⟩ mid with
        | none => rfl
        | some st =>
          show ((dstep n st z).bind fun t => some t).bind fin = none
          unfold dstep
          by_cases c1 : st.ins = true ∧ (z = 32 ∨ z = 41)
          · rw [if_pos c1]
            cases seatU n st.used st.word with
            | none => rfl
            | some v =>
              show ((if z = 41 then _ else _ : Option DSt).bind _).bind _ = _
              rw [if_neg ez] <;> rfl
          · rw [if_neg c1]
            by_cases c2 : st.ins = true ∧ digB z = true
            · rw [if_pos c2]
              show fin { st with word := st.word ++ [z] } = none
              unfold fin
              rw [if_pos c2.1]
            · rw [if_neg c2]
              by_cases c3 : z = 40 ∧ st.ins = false
              · rw [if_pos c3] <;> rfl
              · rw [if_neg c3] <;> rfl
    · rw [if_pos (.inr (.inl (fun h => ea (Option.some.inj h))))]
      rw [fold_cons, out_bad rfl ea] <;> rfl
end Shf

/-! k08: the law's own texts -/
namespace Shf
open PySem L2
theorem str_S (z : Str) : ∃ l, z = SX.S l ∧ l.length = z.length := ⟨z.cps.toList, (SX.S_tl z).symm, by rw [← SX.S_len, SX.S_tl]⟩
theorem add_any {H : Hp} {Q : VK} {i j : Str} (h1 : i.length ≤ 40000) (h2 : j.length ≤ 40000) (q : ∀ w : Str, w.length = i.length + j.length → Q (.str w) H) : rAddS (.str i) (.str j) H Q := by
  obtain ⟨a, rfl, ha⟩ := str_S i
  obtain ⟨b, rfl, hb⟩ := str_S j
  refine add_S (by omega) (by omega) (q _ ?_)
  rw [SX.S_len, List.length_append, ha, hb]
theorem sl_any {H : Hp} {Q : VK} {z : Str} {lo hi : Option Int} (h : z.length ≤ 90000) (q : ∀ w : Str, w.length ≤ z.length → Q (.str w) H) : rSlS (.str z) lo hi H Q := ⟨z, rfl, zl (by omega), q _ (L2.cutS_length _ _ _)⟩
theorem w_nopart {σ : L2.St} {H : Hp} {Q : Option Int → Hp → Prop} (h : Q none H) : tNoPart σ H Q := h
theorem sign_any {H : Hp} {Q : VK} {z : Str} {x : Int} (h0 : 0 < z.length) (h : z.length ≤ 90000) (q : ∀ w : Str, w.length = 1 → Q (.str w) H) : rIxS (.str z) (.int (x % (z.length : Int))) H Q := by
  obtain ⟨l, rfl, hl⟩ := str_S z
  have a := Int.emod_nonneg x (b := ((SX.S l).length : Int)) (by omega)
  have b := Int.emod_lt_of_pos x (b := ((SX.S l).length : Int)) (by omega)
  refine ix_SL (i := (x % ((SX.S l).length : Int)).toNat) (c := l.getD (x % ((SX.S l).length : Int)).toNat 0) (getD_at ?_) (by omega) (by omega) (q _ ?_)
  · omega
  · rw [SX.S_len] <;> rfl
def sp_L_sign (K : PySem.W.Frag) (g : Gd) : Sp := fun vs H Q _ => ∃ c : Int, vs = [.int c] ∧ ∀ w : Str, w.length = 1 → Q (.str w) H
theorem len_L_sign (K : PySem.W.Frag) (g : Gd) (vs : List V) (H : Hp) (Q : VK) (E : XK) (h : sp_L_sign K g vs H Q E) : vs.length = 1 := by obtain ⟨_, rfl, _⟩ := h; rfl
abbrev N_L_sign : List Str := ["cell", "some"]
/-- _law_sign -/
def t_L_sign (K : PySem.W.Frag) (g : Gd) (E : XK) : TS :=
  (tSeq (tAsg (tC (.str " !\"#$&'()*+,-./0123456789:;<=>?@ABCDEFGHIJKLMNOPQRSTUVWXYZ[\\]^_`")) (gName 1))
    (tSeq (tAsg (tOp rAddS (tOp rAddS (tVar 1) (tC (.str "abcdefghijklmnopqrstuvwxyz{|}~"))) (tC (.str "0123456789() 0123456789() "))) (gName 1))
    (tRet (tOp rIxS (tVar 1) (tOp rModI (tVar 0) (tCB rLenSt (tCons (tVar 1) tNil)))))))
theorem pure_L_sign {K : PySem.W.Frag} {g : Gd} (vs : List V) (H : Hp) (Q : VK) (E : XK) (h : sp_L_sign K g vs H Q E) : Rd1 (t_L_sign K g E) N_L_sign vs H Q := by
  obtain ⟨c, rfl, k⟩ := h
  unfold t_L_sign
  have l1 : (" !\"#$&'()*+,-./0123456789:;<=>?@ABCDEFGHIJKLMNOPQRSTUVWXYZ[\\]^_`" : Str).length = 64 := by decide +kernel
  have l2 : ("abcdefghijklmnopqrstuvwxyz{|}~" : Str).length = 30 := by decide +kernel
  have l3 : ("0123456789() 0123456789() " : Str).length = 26 := by decide +kernel
  generalize (" !\"#$&'()*+,-./0123456789:;<=>?@ABCDEFGHIJKLMNOPQRSTUVWXYZ[\\]^_`" : Str) = z1 at *
  generalize ("abcdefghijklmnopqrstuvwxyz{|}~" : Str) = z2 at *
  generalize ("0123456789() 0123456789() " : Str) = z3 at *
  walk_at "rd"
  refine add_any (by omega) (by omega) fun w hw => ?_
  walk_at "ex"
  refine add_any (by omega) (by omega) fun w2 hw2 => ?_
  walk_at "rd"
  refine ⟨w2, rfl, zl (by omega), ?_⟩
  refine mod_I (by omega) ?_
  exact sign_any (by omega) (by omega) k
def sp_L_changed (K : PySem.W.Frag) (g : Gd) : Sp := fun vs H Q _ => ∃ (t : Str) (c a : Int), vs = [.str t, .int c, .int a] ∧ t.length ≤ 10000 ∧ ∀ w : Str, w.length ≤ 2 * t.length + 1 → Q (.str w) H
theorem len_L_changed (K : PySem.W.Frag) (g : Gd) (vs : List V) (H : Hp) (Q : VK) (E : XK) (h : sp_L_changed K g vs H Q E) : vs.length = 3 := by obtain ⟨_, _, _, rfl, _⟩ := h; rfl
abbrev N_L_changed : List Str := ["text", "cell", "at", "place", "way"]
/-- _law_changed -/
def t_L_changed (K : PySem.W.Frag) (g : Gd) (E : XK) : TS :=
  (tSeq (tAsg (tOp rModI (tVar 2) (tOp rAddI (tCB rLenSt (tCons (tVar 0) tNil)) (tC (.int 1)))) (gName 3))
    (tSeq (tAsg (tOp rModI (tVar 1) (tC (.int 3))) (gName 4))
    (tSeq (tIfS (tTest (tOp rEq (tVar 4) (tC (.int 0)))) (tRet (tOp rAddS (tOp rAddS (tSl rSlS (tVar 0) tNoPart (tPart (tVar 3))) (tCallS (sp_L_sign K g) (fun _ => E0) (tCons (tOp rDivI (tVar 1) (tC (.int 3))) tNil))) (tSl rSlS (tVar 0) (tPart (tVar 3)) tNoPart))) tNext)
    (tSeq (tIfS (tTest (tOp rEq (tVar 4) (tC (.int 1)))) (tRet (tOp rAddS (tOp rAddS (tSl rSlS (tVar 0) tNoPart (tPart (tVar 3))) (tCallS (sp_L_sign K g) (fun _ => E0) (tCons (tOp rDivI (tVar 1) (tC (.int 3))) tNil))) (tSl rSlS (tVar 0) (tPart (tOp rAddI (tVar 3) (tC (.int 1)))) tNoPart))) tNext)
    (tRet (tOp rAddS (tSl rSlS (tVar 0) tNoPart (tPart (tVar 3))) (tSl rSlS (tVar 0) (tPart (tOp rAddI (tVar 3) (tC (.int 1)))) tNoPart)))))))
theorem pure_L_changed {K : PySem.W.Frag} {g : Gd} (vs : List V) (H : Hp) (Q : VK) (E : XK) (h : sp_L_changed K g vs H Q E) : Rd1 (t_L_changed K g E) N_L_changed vs H Q := by
  obtain ⟨t, c, a, rfl, ht, k⟩ := h
  unfold t_L_changed
  walk_at "re"
  walk_at "sq"
  walk_at "re"
  refine ⟨t, rfl, zl (by omega), ?_⟩
  walk_at "re"
  refine mod_I (by omega) ?_
  walk_at "re"
  walk_at "sq"
  walk_at "re"
  refine mod_I (by decide) ?_
  walk_at "re"
  walk_at "sq"
  walk_at "st"
  walk_at "ex"
  refine if_d (fun z => ?_) (fun z => ?_)
  · walk_at "st"
    refine w_slT ?_
    walk_at "ex"
    refine w_nopart ?_
    refine w_part ?_
    walk_at "ex"
    refine sl_any (z := t) (by omega) fun w1 h1 => ?_
    walk_at "ex"
    refine div_I (by decide) (by decide) ?_
    refine ⟨_, rfl, fun w2 h2 => ?_⟩
    refine add_any (by omega) (by omega) fun w3 h3 => ?_
    refine w_slT ?_
    walk_at "ex"
    refine w_part ?_
    walk_at "ex"
    refine w_nopart (sl_any (z := t) (by omega) fun w4 h4 => ?_)
    refine add_any (by omega) (by omega) fun w5 h5 => ?_
    exact k _ (by omega)
  walk_at "re"
  walk_at "sq"
  walk_at "st"
  walk_at "ex"
  refine if_d (fun z => ?_) (fun z => ?_)
  · walk_at "st"
    refine w_slT ?_
    walk_at "ex"
    refine w_nopart ?_
    refine w_part ?_
    walk_at "ex"
    refine sl_any (z := t) (by omega) fun w1 h1 => ?_
    walk_at "ex"
    refine div_I (by decide) (by decide) ?_
    refine ⟨_, rfl, fun w2 h2 => ?_⟩
    refine add_any (by omega) (by omega) fun w3 h3 => ?_
    refine w_slT ?_
    walk_at "ex"
    refine w_part ?_
    walk_at "ex"
    refine w_nopart (sl_any (z := t) (by omega) fun w4 h4 => ?_)
    refine add_any (by omega) (by omega) fun w5 h5 => ?_
    exact k _ (by omega)
  · walk_at "re"
    refine w_slT ?_
    walk_at "ex"
    refine w_nopart ?_
    refine w_part ?_
    walk_at "ex"
    refine sl_any (z := t) (by omega) fun w1 h1 => ?_
    refine w_slT ?_
    walk_at "ex"
    refine w_part ?_
    walk_at "ex"
    refine w_nopart (sl_any (z := t) (by omega) fun w4 h4 => ?_)
    refine add_any (by omega) (by omega) fun w5 h5 => ?_
    exact k _ (by omega)
def shortB : V → Bool
  | .str z => decide (z.length ≤ 20)
  | _ => false
theorem short_get {xs : List V} (h : xs.all shortB = true) {i : Nat} {v : V} (hv : xs[i]? = some v) : ∃ z : Str, v = .str z ∧ z.length ≤ 20 := by
  have := List.all_eq_true.mp h v (List.mem_of_getElem? hv)
  cases v <;> first | (exact ⟨_, rfl, of_decide_eq_true this⟩) | (cases this)
def sp_L_odd (K : PySem.W.Frag) (g : Gd) : Sp := fun vs H Q _ => ∃ c : Int, vs = [.int c] ∧ ∀ (w : Str) (H' : Hp), Same H H' → w.length ≤ 20 → Q (.str w) H'
theorem len_L_odd (K : PySem.W.Frag) (g : Gd) (vs : List V) (H : Hp) (Q : VK) (E : XK) (h : sp_L_odd K g vs H Q E) : vs.length = 1 := by obtain ⟨_, rfl, _⟩ := h; rfl
abbrev N_L_odd : List Str := ["cell", "some"]
/-- _law_odd -/
def t_L_odd (K : PySem.W.Frag) (g : Gd) (E : XK) : TS :=
  (tSeq (tAsg (tLst (tCons (tC (.str "")) (tCons (tC (.str "(")) (tCons (tC (.str ")")) (tCons (tC (.str "(0)")) (tCons (tC (.str "(0 0)")) (tCons (tC (.str "( )")) (tCons (tC (.str "(0 1")) (tCons (tC (.str "0 1)")) (tCons (tC (.str "0 1")) (tCons (tC (.str "(0  1)")) (tCons (tC (.str "( 0 1)")) (tCons (tC (.str "(0 1 )")) (tCons (tC (.str " (0 1)")) tNil)))))))))))))) (gName 1))
    (tSeq (tAsg (tOp rCat (tVar 1) (tLst (tCons (tC (.str "(0 1) ")) (tCons (tC (.str "(00 1)")) (tCons (tC (.str "(0 01)")) (tCons (tC (.str "(0,1)")) (tCons (tC (.str "()()")) (tCons (tC (.str "(0 1)()")) (tCons (tC (.str "()(0 1)")) (tCons (tC (.str "(0 1)(1 2)")) (tCons (tC (.str "((0 1))")) tNil))))))))))) (gName 1))
    (tSeq (tAsg (tOp rCat (tVar 1) (tLst (tCons (tC (.str "(0 1) (2 3)")) (tCons (tC (.str "(-1 0)")) (tCons (tC (.str "(+1 0)")) (tCons (tC (.str "(0 16)")) (tCons (tC (.str "(0 1)(2)")) (tCons (tC (.str "(1 0)(3 2)")) (tCons (tC (.str "(0 100)")) (tCons (tC (.str "rest")) (tCons (tC (.str "[0 1]")) tNil))))))))))) (gName 1))
    (tRet (tOp (rIxL K) (tVar 1) (tOp rModI (tVar 0) (tCB (rLenQ K) (tCons (tVar 1) tNil))))))))
theorem pure_L_odd {K : PySem.W.Frag} {g : Gd} (vs : List V) (H : Hp) (Q : VK) (E : XK) (h : sp_L_odd K g vs H Q E) : Rd1 (t_L_odd K g E) N_L_odd vs H Q := by
  obtain ⟨c, rfl, k⟩ := h
  unfold t_L_odd
  walk_at "re"
  walk_at "sq"
  walk_at "re"
  refine ⟨zl (by show 13 ≤ 100000; decide), fun a ha => ?_⟩
  generalize exs : [V.str "", V.str "(", V.str ")", V.str "(0)", V.str "(0 0)", V.str "( )", V.str "(0 1", V.str "0 1)", V.str "0 1", V.str "(0  1)", V.str "( 0 1)", V.str "(0 1 )", V.str " (0 1)"] = xs
  have sxs : xs.all shortB = true := by rw [← exs]; decide +kernel
  have lxs : xs.length = 13 := by rw [← exs] <;> rfl
  clear exs
  have s1 : Same H (upd H a (.lst xs)) := (Same.refl H).new ha
  have ha1 : (upd H a (.lst xs)) a = some (.lst xs) := upd_same
  generalize upd H a (.lst xs) = H1 at *
  walk_at "re"
  walk_at "sq"
  walk_at "re"
  refine ⟨zl (by show 9 ≤ 100000; decide), fun b hb => ?_⟩
  have add : ∀ {xs : List V} {H1 : Hp} {a b : Addr} {ys : List V} {R : VK}, H1 a = some (.lst xs) → H1 b = none → xs.length + ys.length ≤ 1000 → (∀ p, (upd H1 b (.lst ys)) p = none → R (.ref p) (upd (upd H1 b (.lst ys)) p (.lst (xs ++ ys)))) → rCat (.ref a) (.ref b) (upd H1 b (.lst ys)) R := fun ha hb hl k =>
    ⟨_, _, _, _, rfl, rfl, by rw [upd_ne (ne_of_none ha hb)]; exact ha, upd_same, zl (by omega), k⟩
  refine add ha1 hb (by rw [lxs]; show 13 + 9 ≤ 1000; decide) fun p hp => ?_
  have sys : ([V.str (Str.ofString "(0 1) "), V.str (Str.ofString "(00 1)"), V.str (Str.ofString "(0 01)"), V.str (Str.ofString "(0,1)"), V.str (Str.ofString "()()"), V.str (Str.ofString "(0 1)()"), V.str (Str.ofString "()(0 1)"), V.str (Str.ofString "(0 1)(1 2)"), V.str (Str.ofString "((0 1))")]).all shortB = true := by decide +kernel
  have lys : ([V.str (Str.ofString "(0 1) "), V.str (Str.ofString "(00 1)"), V.str (Str.ofString "(0 01)"), V.str (Str.ofString "(0,1)"), V.str (Str.ofString "()()"), V.str (Str.ofString "(0 1)()"), V.str (Str.ofString "()(0 1)"), V.str (Str.ofString "(0 1)(1 2)"), V.str (Str.ofString "((0 1))")]).length = 9 := rfl
  generalize ([V.str (Str.ofString "(0 1) "), V.str (Str.ofString "(00 1)"), V.str (Str.ofString "(0 01)"), V.str (Str.ofString "(0,1)"), V.str (Str.ofString "()()"), V.str (Str.ofString "(0 1)()"), V.str (Str.ofString "()(0 1)"), V.str (Str.ofString "(0 1)(1 2)"), V.str (Str.ofString "((0 1))")]) = ys at *
  have s2 := (s1.new (o := .lst ys) hb).new (o := .lst (xs ++ ys)) hp
  have ha2 : (upd (upd H1 b (.lst ys)) p (.lst (xs ++ ys))) p = some (.lst (xs ++ ys)) := upd_same
  generalize upd (upd H1 b (.lst ys)) p (.lst (xs ++ ys)) = H2 at *
  walk_at "re"
  walk_at "sq"
  walk_at "re"
  refine ⟨zl (by show 9 ≤ 100000; decide), fun b2 hb2 => ?_⟩
  refine add ha2 hb2 (by rw [List.length_append, lxs, lys]; show 13 + 9 + 9 ≤ 1000; decide) fun p2 hp2 => ?_
  have szs : ([V.str (Str.ofString "(0 1) (2 3)"), V.str (Str.ofString "(-1 0)"), V.str (Str.ofString "(+1 0)"), V.str (Str.ofString "(0 16)"), V.str (Str.ofString "(0 1)(2)"), V.str (Str.ofString "(1 0)(3 2)"), V.str (Str.ofString "(0 100)"), V.str (Str.ofString "rest"), V.str (Str.ofString "[0 1]")]).all shortB = true := by decide +kernel
  have lzs : ([V.str (Str.ofString "(0 1) (2 3)"), V.str (Str.ofString "(-1 0)"), V.str (Str.ofString "(+1 0)"), V.str (Str.ofString "(0 16)"), V.str (Str.ofString "(0 1)(2)"), V.str (Str.ofString "(1 0)(3 2)"), V.str (Str.ofString "(0 100)"), V.str (Str.ofString "rest"), V.str (Str.ofString "[0 1]")]).length = 9 := rfl
  generalize ([V.str (Str.ofString "(0 1) (2 3)"), V.str (Str.ofString "(-1 0)"), V.str (Str.ofString "(+1 0)"), V.str (Str.ofString "(0 16)"), V.str (Str.ofString "(0 1)(2)"), V.str (Str.ofString "(1 0)(3 2)"), V.str (Str.ofString "(0 100)"), V.str (Str.ofString "rest"), V.str (Str.ofString "[0 1]")]) = zs at *
  have s3 := (s2.new (o := .lst zs) hb2).new (o := .lst (xs ++ ys ++ zs)) hp2
  have ha3 : (upd (upd H2 b2 (.lst zs)) p2 (.lst (xs ++ ys ++ zs))) p2 = some (.lst (xs ++ ys ++ zs)) := upd_same
  generalize upd (upd H2 b2 (.lst zs)) p2 (.lst (xs ++ ys ++ zs)) = H3 at *
  have la : (xs ++ ys ++ zs).length = 31 := by rw [List.length_append, List.length_append, lxs, lys, lzs]
  have sa : (xs ++ ys ++ zs).all shortB = true := by rw [List.all_append, List.all_append, sxs, sys, szs] <;> rfl
  generalize xs ++ ys ++ zs = us at *
  walk_at "re"
  refine len_L (sqL ha3) ?_
  rw [la]
  refine mod_I (by decide) ?_
  have m1 := Int.emod_nonneg c (b := ((31 : Nat) : Int)) (by decide)
  have m2 := Int.emod_lt_of_pos c (b := ((31 : Nat) : Int)) (by decide)
  obtain ⟨i, hi, hl⟩ : ∃ i : Nat, c % ((31 : Nat) : Int) = (i : Int) ∧ i < us.length := ⟨(c % ((31 : Nat) : Int)).toNat, by omega, by omega⟩
  obtain ⟨z, ez, hz⟩ := short_get sa (List.getElem?_eq_getElem hl)
  refine ix_L (i := i) (sqL ha3) ((List.getElem?_eq_getElem hl).trans (by rw [ez])) hi ?_
  exact k z _ s3 hz
end Shf

/-! k08: rings in a drawn order, as a text -/
namespace Shf
open PySem L2
/-- a ring of a list of rings, apart from F -/
def OkR (H : Hp) (F : Addr) (v : V) : Prop := ∃ (p : Addr) (r : List Nat), v = .ref p ∧ p ≠ F ∧ H p = some (.lst (vN r)) ∧ 2 ≤ r.length ∧ r.length ≤ 16 ∧ ∀ x ∈ r, x < 100
theorem OkR.mono {H H' : Hp} {F : Addr} {v : V} (h : OkR H F v) (s : Same H H') : OkR H' F v := by
  obtain ⟨p, r, e, h1, h2, h3⟩ := h
  exact ⟨p, r, e, h1, s _ _ h2, h3⟩
theorem OkR.updF {H : Hp} {F : Addr} {o : HO} {v : V} (h : OkR H F v) : OkR (upd H F o) F v := by
  obtain ⟨p, r, e, h1, h2, h3⟩ := h
  exact ⟨p, r, e, h1, by rw [upd_ne h1]; exact h2, h3⟩
theorem OkR.new {H : Hp} {F G : Addr} {v : V} (h : OkR H F v) (hG : H G = none) : OkR H G v := by
  obtain ⟨p, r, e, h1, h2, h3⟩ := h
  exact ⟨p, r, e, fun z => by (rw [z, hG] at h2; cases h2), h2, h3⟩
theorem cutV_from {a : List Nat} {z : Int} {i : Nat} (e : z = (i : Int)) (h : i ≤ a.length) : cutV (vN a) (some z) none = vN (a.drop i) := by
  unfold cutV
  rw [vN_len, HT.sIx_none, e, HT.sIx_nat, Nat.min_eq_left h]
  show ((a.map _).drop i).take _ = (a.drop i).map _
  rw [List.map_drop, List.take_of_length_le (by rw [List.length_drop, List.length_map]; exact Nat.le_refl _)]
theorem cutV_to {a : List Nat} {z : Int} {i : Nat} (e : z = (i : Int)) (h : i ≤ a.length) : cutV (vN a) none (some z) = vN (a.take i) := by
  unfold cutV
  rw [vN_len, HT.sIx_none, e, HT.sIx_nat, Nat.min_eq_left h, Nat.sub_zero, List.drop_zero]
  show (a.map _).take i = (a.take i).map _
  rw [List.map_take]
theorem pop_any {H : Hp} {Q : VK} {l : Addr} {xs : List V} {z : Int} (h : H l = some (.lst xs)) (h0 : 0 < xs.length) (hz : xs.length ≤ 100000) (q : ∀ i y, i < xs.length → xs[i]? = some y → Q y (upd H l (.lst (xs.eraseIdx i)))) : rPopAt (.ref l) [.int (z % (xs.length : Int))] H Q := by
  have a := Int.emod_nonneg z (b := (xs.length : Int)) (by omega)
  have b := Int.emod_lt_of_pos z (b := (xs.length : Int)) (by omega)
  have hi : (z % (xs.length : Int)).toNat < xs.length := by omega
  exact ⟨l, xs, _, (z % (xs.length : Int)).toNat, xs[(z % (xs.length : Int)).toNat], rfl, rfl, h, by omega, by omega, seqIx (by omega) hi, List.getElem?_eq_getElem hi, q _ _ hi (List.getElem?_eq_getElem hi)⟩
def sp_L_rings_k08 (K : PySem.W.Frag) (g : Gd) : Sp := fun vs H Q _ => ∃ (p : Addr) (n : Nat) (a : List Nat), vs = [.ref p] ∧ SqT K H p (vN a) ∧ IsP n a ∧ n ≤ 16 ∧ ∀ (r : Addr) (H' : Hp) (ws : List V), Same H H' → H r = none → H' r = some (.lst ws) → ws.length ≤ 16 → (∀ v ∈ ws, OkR H' r v) → Q (.ref r) H'
theorem len_L_rings_k08 (K : PySem.W.Frag) (g : Gd) (vs : List V) (H : Hp) (Q : VK) (E : XK) (h : sp_L_rings_k08 K g vs H Q E) : vs.length = 1 := by obtain ⟨_, _, _, rfl, _⟩ := h; rfl
abbrev N_L_rings_k08 : List Str := ["a", "told", "k", "ring"]
/-- _law_rings -/
def t_L_rings_k08 (K : PySem.W.Frag) (g : Gd) (E : XK) : TS :=
  (tSeq (tAsg (tLst tNil) (gName 1))
    (tSeq (tFor (iRng1 (tCons (tCB (rLenQ K) (tCons (tVar 0) tNil)) tNil)) (gName 2) (tSeq (tAsg (tLst (tCons (tVar 2) tNil)) (gName 3))
    (tSeq (tWhile (tTest (tOp rNe (tOp (rIxT K) (tVar 0) (tOp (rIxL K) (tVar 3) (tUn (rU fun i => .int (-i)) (tC (.int 1))))) (tVar 2))) (tDrop (tBM K "list" rAppend (tVar 3) (tCons (tOp (rIxT K) (tVar 0) (tOp (rIxL K) (tVar 3) (tUn (rU fun i => .int (-i)) (tC (.int 1))))) tNil))))
    (tIfS (tAnd (tTest (tOp rGtI (tCB (rLenQ K) (tCons (tVar 3) tNil)) (tC (.int 1)))) (tTest (tOp rEq (tCB (rMin K) (tCons (tVar 3) tNil)) (tVar 2)))) (tDrop (tBM K "list" rAppend (tVar 1) (tCons (tVar 3) tNil))) tNext))))
    (tRet (tVar 1))))
theorem pure_L_rings_k08 {K : PySem.W.Frag} {g : Gd} (vs : List V) (H : Hp) (Q : VK) (E : XK) (h : sp_L_rings_k08 K g vs H Q E) : Rd1 (t_L_rings_k08 K g E) N_L_rings_k08 vs H Q := by
  obtain ⟨p, n, b, rfl, hp, pb, hn, k⟩ := h
  unfold t_L_rings_k08
  walk_at "rd"
  refine ⟨zl (Nat.zero_le _), fun f hf => ?_⟩
  have s1 := (Same.refl H).new (o := .lst []) hf
  walk_at "rd"
  refine len_TN (s1.tup hp) ?_
  rw [pb.len]
  walk_at "rd"
  refine w_for1 (by omega) (fun i σ H' => (∃ v r, σ = [some (.ref p), some (.ref f), v, r]) ∧ Same H H' ∧ ∃ ws, H' f = some (.lst ws) ∧ ws.length ≤ i ∧ ∀ v ∈ ws, OkR H' f v) ⟨⟨_, _, rfl⟩, s1, [], upd_same, Nat.le_refl _, fun v hv => by cases hv⟩ ?_ ?_
  · rintro i σ H1 hi ⟨⟨v, r, rfl⟩, s, ws, hF, hwl, hOk⟩
    obtain ⟨q1, q2, q3, q4⟩ := per_spec pb hi
    walk_at "rd"
    refine ⟨zl (by show 1 ≤ 100000; decide), fun l hl => ?_⟩
    have s3 := (Same.refl H1).new (o := .lst [V.int (i : Int)]) hl
    walk_at "rd"
    refine w_while ⟨fun m σ H' => ∃ j, j + 1 + m = per b i ∧ σ = [some (.ref p), some (.ref f), some (.int (i : Int)), some (.ref l)] ∧ Same H1 H' ∧
      H' l = some (.lst (vN ((List.range (j + 1)).map fun u => itr b u i))), ⟨per b i - 1, 0, by omega, rfl, s3, upd_same⟩, ?_⟩
    clear s3
    rintro m σ H2 ⟨j, hjm, rfl, sx, hL⟩
    have s2 := s.trans sx
    have hL' := hL
    rw [rangeS] at hL'
    have hlt := itr_lt pb hi j
    walk_at "rd"
    refine ix_last (sqL hL') rfl ?_
    refine ix_TN (i := itr b j i) (s2.tup hp) (by rw [pb.len]; exact hlt) rfl ?_
    walk_at "rd"
    have hstep : b.getD (itr b j i) 0 = itr b (j + 1) i := rfl
    rw [hstep]
    refine if_nd (fun c => ?_) (fun c => ?_)
    · have hjp : j + 1 < per b i := by
        refine Decidable.byContradiction fun z => c ?_
        have : j + 1 = per b i := by omega
        rw [this, q1]
      refine ⟨_, fun σ' H' h => ⟨m - 1, by omega, h⟩, ?_⟩
      walk_at "rd"
      refine ⟨isL (sqL hL), ?_⟩
      walk_at "rd"
      refine ix_last (sqL hL') rfl ?_
      refine ix_TN (i := itr b j i) (s2.tup hp) (by rw [pb.len]; exact hlt) rfl ?_
      walk_at "rd"
      rw [hstep]
      refine app_N hL (by rw [List.length_map, List.length_range]; omega) ?_
      refine ⟨j + 1, by omega, rfl, sx.up hl, ?_⟩
      rw [upd_same, rangeS _ (j + 1)]
    · have hjp : j + 1 = per b i := by
        refine Decidable.byContradiction fun z => q3 (j + 1) (by omega) (by omega) (by omega)
      rw [hjp] at hL
      have hr : H2 l = some (.lst (vN (ring b i))) := hL
      have hF2 := sx _ _ hF
      have hOk2 : ∀ v ∈ ws, OkR H2 f v := fun v hv => (hOk v hv).mono sx
      walk_at "re"
      walk_at "st"
      refine w_andP (b := decide (1 < (per b i : Int))) (c := isMin b i) (fun R h => ?_) (fun R h => ?_) ?_
      · walk_at "ex"
        refine len_LN (sqL hr) ?_
        rw [ring_len]
        walk_at "ex"
        exact h
      · walk_at "ex"
        refine min_N (sqL hr) (by rw [ring_len]; omega) fun mn hm hl => ?_
        walk_at "ex"
        rw [isMin_eq pb hi hm hl] at h
        exact h
      refine if_b (fun c2 => ?_) (fun c2 => ?_)
      · rw [Bool.and_eq_true] at c2
        have c4 := of_decide_eq_true c2.1
        walk_at "rd"
        refine ⟨isL (sqL hF2), ?_⟩
        walk_at "rd"
        refine app_V (xs := ws) hF2 (by omega) ?_
        refine ⟨⟨_, _, rfl⟩, s2.up hf, _, upd_same, by rw [List.length_append]; show _ + 1 ≤ _; omega, fun v hv => ?_⟩
        rcases List.mem_append.mp hv with hv | hv
        · exact (hOk2 v hv).updF
        · rw [List.mem_singleton.mp hv]
          refine OkR.updF ⟨l, ring b i, rfl, (ne_of_none hF hl).symm, hr, ?_, ?_, fun x hx => ?_⟩
          · rw [ring_len]; omega
          · rw [ring_len]; omega
          · have := ring_lt pb hi hx; omega
      · walk_at "rd"
        exact ⟨⟨_, _, rfl⟩, s2, ws, hF2, by omega, hOk2⟩
  · rintro σ H1 ⟨⟨v, r, rfl⟩, s, ws, hF, hwl, hOk⟩
    walk_at "rd"
    exact k f H1 ws s hf hF (by omega) hOk
def sp_L_text (K : PySem.W.Frag) (g : Gd) : Sp := fun vs H Q _ => ∃ (l : Addr) (c : Int) (ws : List V), vs = [.ref l, .int c] ∧ H l = some (.lst ws) ∧ ws.length ≤ 16 ∧ (∀ v ∈ ws, OkR H l v) ∧ ∀ (t : List Nat) (H' : Hp), Same H H' → t.length ≤ 800 → Q (.str (SX.S t)) H'
theorem len_L_text (K : PySem.W.Frag) (g : Gd) (vs : List V) (H : Hp) (Q : VK) (E : XK) (h : sp_L_text K g vs H Q E) : vs.length = 2 := by obtain ⟨_, _, _, rfl, _⟩ := h; rfl
abbrev N_L_text : List Str := ["parts", "cell", "whole", "left", "ring", "cut", "x"]
/-- _law_text -/
def t_L_text (K : PySem.W.Frag) (g : Gd) (E : XK) : TS :=
  (tSeq (tAsg (tC (.str "")) (gName 2))
    (tSeq (tAsg (tCB (rListOf K) (tCons (tVar 0) tNil)) (gName 3))
    (tSeq (tWhile (tTest (tOp rGtI (tCB (rLenQ K) (tCons (tVar 3) tNil)) (tC (.int 0)))) (tSeq (tAsg (tOp rModI (tOp rAddI (tOp rMulI (tVar 1) (tC (.int 48271))) (tC (.int 11))) (tC (.int 2147483647))) (gName 1))
    (tSeq (tAsg (tBM K "list" rPopAt (tVar 3) (tCons (tOp rModI (tVar 1) (tCB (rLenQ K) (tCons (tVar 3) tNil))) tNil)) (gName 4))
    (tSeq (tAsg (tOp rModI (tOp rDivI (tVar 1) (tC (.int 97))) (tCB (rLenQ K) (tCons (tVar 4) tNil))) (gName 5))
    (tAsg (tOp rAddS (tOp rAddS (tOp rAddS (tVar 2) (tC (.str "("))) (tM1 (rJoin K) (tC (.str " ")) (tLc (iList K (tOp rCat (tSl (rSlL K) (tVar 4) (tPart (tVar 5)) tNoPart) (tSl (rSlL K) (tVar 4) tNoPart (tPart (tVar 5))))) (gName 6) tYes (tCB rStrI (tCons (tVar 6) tNil)) [6]))) (tC (.str ")"))) (gName 2))))))
    (tSeq (tIfS (tTest (tOp rEq (tVar 2) (tC (.str "")))) (tRet (tC (.str "()"))) tNext)
    (tRet (tVar 2))))))
theorem pure_L_text {K : PySem.W.Frag} {g : Gd} (vs : List V) (H : Hp) (Q : VK) (E : XK) (h : sp_L_text K g vs H Q E) : Rd1 (t_L_text K g E) N_L_text vs H Q := by
  obtain ⟨l, c, ws, rfl, hl, hw, hOk, k⟩ := h
  unfold t_L_text
  rw [lit0, litA, litS, litZ, litP]
  walk_at "re"
  walk_at "sq"
  walk_at "re"
  walk_at "sq"
  walk_at "re"
  refine ⟨l, ws, rfl, .inl (sqL hl), fun f hf => ?_⟩
  have s1 : Same H (upd H f (.lst ws)) := (Same.refl H).new hf
  have hf1 : (upd H f (.lst ws)) f = some (.lst ws) := upd_same
  have hOk1 : ∀ v ∈ ws, OkR (upd H f (.lst ws)) f v := fun v hv => ((hOk v hv).new hf).updF
  generalize upd H f (.lst ws) = H1 at *
  walk_at "re"
  walk_at "sq"
  refine w_while ⟨fun m σ H' => ∃ (c : Int) (t : List Nat) (us : List V) (y4 y5 : Option V), us.length = m ∧ σ = [some (.ref l), some (.int c), some (.str (SX.S t)), some (.ref f), y4, y5, none] ∧ Same H H' ∧ H' f = some (.lst us) ∧ t.length + 50 * m ≤ 800 ∧ (∀ v ∈ us, OkR H' f v), ⟨ws.length, c, [], ws, none, none, rfl, rfl, s1, hf1, by show 0 + _ ≤ _; omega, hOk1⟩, ?_⟩
  clear hf1 hOk1 s1
  rintro m σ H2 ⟨c, t, us, y4, y5, hm, rfl, s, hF, ht, hO⟩
  walk_at "rd"
  refine len_L (sqL hF) ?_
  walk_at "rd"
  refine if_d (fun c1 => ?_) (fun c1 => ?_)
  · refine ⟨_, fun σ' H' h => ⟨m - 1, by omega, h⟩, ?_⟩
    walk_at "sq"
    walk_at "re"
    refine mul_I (.inr (by decide)) ?_
    walk_at "re"
    refine mod_I (by decide) ?_
    walk_at "re"
    walk_at "sq"
    walk_at "re"
    refine ⟨isL (sqL hF), ?_⟩
    walk_at "re"
    refine len_L (sqL hF) ?_
    refine mod_I (by omega) ?_
    refine pop_any hF (by omega) (by omega) fun i y hi hy => ?_
    obtain ⟨p, r, rfl, hpf, hp, r2, r16, rlt⟩ := hO y (List.mem_of_getElem? hy)
    have s3 : Same H (upd H2 f (.lst (us.eraseIdx i))) := s.up hf
    have hF3 : (upd H2 f (.lst (us.eraseIdx i))) f = some (.lst (us.eraseIdx i)) := upd_same
    have hp3 : (upd H2 f (.lst (us.eraseIdx i))) p = some (.lst (vN r)) := by rw [upd_ne hpf]; exact hp
    have hO3 : ∀ v ∈ us.eraseIdx i, OkR (upd H2 f (.lst (us.eraseIdx i))) f v := fun v hv => (hO v (List.mem_of_mem_eraseIdx hv)).updF
    have hel : (us.eraseIdx i).length = m - 1 := by rw [List.length_eraseIdx, if_pos hi]; omega
    generalize upd H2 f (.lst (us.eraseIdx i)) = H3 at *
    generalize us.eraseIdx i = us' at *
    walk_at "re"
    walk_at "sq"
    walk_at "re"
    refine div_I (by decide) (by decide) ?_
    walk_at "re"
    refine len_LN (sqL hp3) ?_
    refine mod_I (by omega) ?_
    generalize (c * 48271 + 11) % 2147483647 = c' at *
    have m1 := Int.emod_nonneg (c' / 97) (b := (r.length : Int)) (by omega)
    have m2 := Int.emod_lt_of_pos (c' / 97) (b := (r.length : Int)) (by omega)
    obtain ⟨j, ej, hj⟩ : ∃ j : Nat, c' / 97 % (r.length : Int) = (j : Int) ∧ j < r.length := ⟨(c' / 97 % (r.length : Int)).toNat, by omega, by omega⟩
    rw [ej]
    walk_at "re"
    refine add_S (by omega) (by decide) ?_
    refine w_m1 ?_
    walk_at "ex"
    refine ⟨⟨_, rfl⟩, ?_⟩
    refine w_lc ?_
    refine w_ilist ?_
    walk_at "ex"
    refine w_slT ?_
    walk_at "ex"
    refine w_part ?_
    walk_at "ex"
    refine w_nopart ?_
    refine ⟨p, vN r, rfl, sqL hp3, fun a1 ha1 => ?_⟩
    rw [cutV_from rfl (Nat.le_of_lt hj)]
    have s4 : Same H (upd H3 a1 (.lst (vN (r.drop j)))) := s3.new ha1
    have sh4 : Same H3 (upd H3 a1 (.lst (vN (r.drop j)))) := (Same.refl H3).new ha1
    have ha4 : (upd H3 a1 (.lst (vN (r.drop j)))) a1 = some (.lst (vN (r.drop j))) := upd_same
    generalize upd H3 a1 (.lst (vN (r.drop j))) = H4 at *
    walk_at "ex"
    refine w_slT ?_
    walk_at "ex"
    refine w_nopart ?_
    refine w_part ?_
    walk_at "ex"
    refine ⟨p, vN r, rfl, sqL (sh4 _ _ hp3), fun a2 ha2 => ?_⟩
    rw [cutV_to rfl (Nat.le_of_lt hj)]
    have s5 := s4.new (o := .lst (vN (r.take j))) ha2
    have sh5 : Same H3 (upd H4 a2 (.lst (vN (r.take j)))) := sh4.new ha2
    have ha5 : (upd H4 a2 (.lst (vN (r.take j)))) a2 = some (.lst (vN (r.take j))) := upd_same
    have ha45 : (upd H4 a2 (.lst (vN (r.take j)))) a1 = some (.lst (vN (r.drop j))) := by rw [upd_ne (ne_of_none ha4 ha2)]; exact ha4
    generalize upd H4 a2 (.lst (vN (r.take j))) = H5 at *
    refine ⟨a1, a2, _, _, rfl, rfl, ha45, ha5, by rw [vN_len, vN_len, List.length_drop, List.length_take]; exact zl (by omega), fun a3 ha3 => ?_⟩
    have e6 : vN (r.drop j) ++ vN (r.take j) = vN (r.drop j ++ r.take j) := List.map_append.symm
    rw [e6]
    have q1 : (r.drop j ++ r.take j).length ≤ 16 := by rw [List.length_append, List.length_drop, List.length_take]; omega
    have q2 : ∀ x ∈ r.drop j ++ r.take j, x < 100 := fun x hx => by
      rcases List.mem_append.mp hx with hx | hx
      · exact rlt x (List.mem_of_mem_drop hx)
      · exact rlt x (List.mem_of_mem_take hx)
    generalize r.drop j ++ r.take j = u at *
    have s6 := s5.new (o := .lst (vN u)) ha3
    have sh6 : Same H3 (upd H5 a3 (.lst (vN u))) := sh5.new ha3
    have ha6 : (upd H5 a3 (.lst (vN u))) a3 = some (.lst (vN u)) := upd_same
    generalize upd H5 a3 (.lst (vN u)) = H6 at *
    refine ⟨a3, rfl, ⟨_, sqL ha6⟩, fun D hD => lc_list (K := K) (a := a3) (xs := vN u) (fun j Hy => Same H6 Hy ∧ Hy D = some (.lst (vW ((u.take j).map TL.numL)))) ?_ ?_ ?_ ?_⟩
    · exact ⟨(Same.refl H6).new hD, upd_same⟩
    · rintro j Hy _ ⟨sy, _⟩; exact sqL (sy _ _ ha6)
    · rintro j x Hy hxj ⟨sy, hDy⟩
      obtain ⟨m, hm, rfl⟩ := vN_get hxj
      refine ⟨rfl, ?_⟩
      walk_at "ex"
      refine str_num (q2 m (List.mem_of_getElem? hm)) ?_
      refine ⟨_, hDy, ?_, sy.up hD, ?_⟩
      · rw [vW_len, List.length_map, List.length_take]; exact zlt (by omega)
      · rw [upd_same, vW_snoc, take_more hm, List.map_append] <;> rfl
    · rintro Hy ⟨sy, hDy⟩
      rw [vN_len, List.take_length] at hDy
      refine join_nums hDy q1 q2 ?_
      have hb := bodyT_len q2
      refine add_S (by rw [List.length_append]; show _ + 1 ≤ _; omega) (by omega) ?_
      walk_at "ex"
      refine add_S (by rw [List.length_append, List.length_append]; show _ + 1 + _ ≤ _; omega) (by decide) ?_
      refine ⟨c', _, us', _, _, hel, rfl, s6.trans sy, sy _ _ (sh6 _ _ hF3), ?_, fun v hv => (hO3 v hv).mono (sh6.trans sy)⟩
      rw [List.length_append, List.length_append, List.length_append]
      show t.length + 1 + (bodyT u).length + 1 + _ ≤ 800
      have : 0 < m := by omega
      omega
  · walk_at "re"
    walk_at "sq"
    walk_at "st"
    walk_at "ex"
    refine eq_SL ?_
    walk_at "ex"
    refine if_d (fun c2 => ?_) (fun c2 => ?_)
    · walk_at "rd"
      exact k _ _ s (by decide)
    · walk_at "rd"
      exact k _ _ s (by omega)
end Shf

/-! k08: the law's reader walked -/
namespace Shf
open PySem L2
theorem in_LNs {K : PySem.W.Frag} {H : Hp} {Q : VK} {p : Addr} {a : List Nat} {x : Nat} (h : SqL K H p (vN a)) (k : Q (.bl (decide (x ∈ a))) H) : rIn K false (.int (x : Int)) (.ref p) H Q := by
  rw [vN_eq] at h
  refine in_LI h ?_
  have e : decide ((x : Int) ∈ a.map fun (x : Nat) => (x : Int)) = decide (x ∈ a) := dec_iff ⟨fun h => by
    obtain ⟨y, hy, e⟩ := List.mem_map.mp h
    have e : y = x := by omega
    rw [← e]; exact hy, fun h => List.mem_map.mpr ⟨x, h, rfl⟩⟩
  rw [e]; exact k
def seatI (n : Nat) (u w : List Nat) : Int := match seatU n u w with | some v => (v : Int) | none => -1
theorem lit_sp : (" )" : Str) = SX.S [32, 41] := by rfl
theorem ix_prev {K : PySem.W.Frag} {H : Hp} {Q : VK} {p : Addr} {r : List Nat} {k : Nat} (h : SqL K H p (vN r)) (hk : k < r.length) (q : Q (.int ((r.getD ((k + (r.length - 1)) % r.length) 0 : Nat) : Int)) H) : rIxL K (.ref p) (.int ((k : Int) - 1)) H Q := by
  refine ⟨p, vN r, _, _, rfl, rfl, h, ?_, q⟩
  show atI (vN r) _ = _
  unfold atI ixN
  rw [vN_len]
  by_cases c : k = 0
  · subst c
    rw [if_neg (by decide), if_pos (by omega)]
    show (vN r)[(((0 : Nat) : Int) - 1 + (r.length : Int)).toNat]? = _
    rw [show (((0 : Nat) : Int) - 1 + (r.length : Int)).toNat = r.length - 1 by omega, Nat.zero_add, Nat.mod_eq_of_lt (by omega)]
    exact vN_at (getD_at (by omega))
  · rw [if_pos (by omega), if_pos (by omega)]
    show (vN r)[((k : Int) - 1).toNat]? = _
    rw [show ((k : Int) - 1).toNat = k - 1 by omega, show k + (r.length - 1) = (k - 1) + r.length by omega, Nat.add_mod_right, Nat.mod_eq_of_lt (by omega)]
    exact vN_at (getD_at (by omega))
def layK (r row : List Nat) (m : Nat) : List Nat := (List.range m).foldl (fun row k => row.set (r.getD ((k + (r.length - 1)) % r.length) 0) (r.getD k 0)) row
theorem layK_succ (r row : List Nat) (m : Nat) : layK r row (m + 1) = (layK r row m).set (r.getD ((m + (r.length - 1)) % r.length) 0) (r.getD m 0) := by
  unfold layK
  rw [List.range_succ, List.foldl_append] <;> rfl
theorem layK_len (r row : List Nat) : ∀ m, (layK r row m).length = row.length
  | 0 => rfl
  | m + 1 => by rw [layK_succ, List.length_set, layK_len r row m]
def sp_L_seat (K : PySem.W.Frag) (g : Gd) : Sp := fun vs H Q _ => ∃ (w u : List Nat) (n : Nat) (p : Addr), vs = [.str (SX.S w), .int (n : Int), .ref p] ∧ w.length ≤ 10000 ∧ w.all digB = true ∧ H p = some (.lst (vN u)) ∧ Q (.int (seatI n u w)) H
theorem len_L_seat (K : PySem.W.Frag) (g : Gd) (vs : List V) (H : Hp) (Q : VK) (E : XK) (h : sp_L_seat K g vs H Q E) : vs.length = 3 := by obtain ⟨_, _, _, _, rfl, _⟩ := h; rfl
abbrev N_L_seat : List Str := ["word", "size", "used"]
/-- _law_seat -/
def t_L_seat (K : PySem.W.Frag) (g : Gd) (E : XK) : TS :=
  (tSeq (tIfS (tOr (tTest (tOp rEq (tVar 0) (tC (.str "")))) (tOr (tTest (tOp rGtI (tCB rLenSt (tCons (tVar 0) tNil)) (tC (.int 2)))) (tAnd (tTest (tOp rEq (tOp rIxS (tVar 0) (tC (.int 0))) (tC (.str "0")))) (tTest (tOp rGtI (tCB rLenSt (tCons (tVar 0) tNil)) (tC (.int 1))))))) (tRet (tUn (rU fun i => .int (-i)) (tC (.int 1)))) tNext)
    (tSeq (tIfS (tOr (tTest (tOp rGeI (tCB rIntS (tCons (tVar 0) tNil)) (tVar 1))) (tTest (tOp (rIn K false) (tCB rIntS (tCons (tVar 0) tNil)) (tVar 2)))) (tRet (tUn (rU fun i => .int (-i)) (tC (.int 1)))) tNext)
    (tRet (tCB rIntS (tCons (tVar 0) tNil)))))
theorem pure_L_seat {K : PySem.W.Frag} {g : Gd} (vs : List V) (H : Hp) (Q : VK) (E : XK) (h : sp_L_seat K g vs H Q E) : Rd1 (t_L_seat K g E) N_L_seat vs H Q := by
  obtain ⟨w, u, n, p, rfl, hw, hd, hp, k⟩ := h
  unfold t_L_seat
  rw [lit0, lit00]
  have bad : (w = [] ∨ 2 < w.length ∨ (w.head? = some 48 ∧ 1 < w.length)) → seatI n u w = -1 := fun h => by
    have : seatP n w = none := by unfold seatP; rw [if_pos h]
    unfold seatI seatU
    rw [this]
  walk_at "sq"
  refine w_join (t := tIfS _ _ _) (fun σ H' => σ = [some (.str (SX.S w)), some (.int (n : Int)), some (.ref p)] ∧ H' = H ∧ ¬ (w = [] ∨ 2 < w.length ∨ (w.head? = some 48 ∧ 1 < w.length))) ?_ fun key => ?_
  · rintro σ H' ⟨rfl, rfl, hb⟩
    have hne : w ≠ [] := fun e => hb (.inl e)
    have hl2 : w.length ≤ 2 := Nat.le_of_not_lt fun h => hb (.inr (.inl h))
    have hv : intText? (SX.S w) = some ((NumText.digitsVal w : Nat) : Int) := SX.int_S hd hne (by omega)
    have hint : ∀ {R : VK}, R (.int ((NumText.digitsVal w : Nat) : Int)) H' → rIntS [.str (SX.S w)] H' R := fun r => ⟨SX.S w, _, rfl, hv, by rw [SX.S_len]; omega, r⟩
    have eP : seatP n w = if NumText.digitsVal w < n then some (NumText.digitsVal w) else none := by unfold seatP; rw [if_neg hb, if_pos hd]
    generalize NumText.digitsVal w = v at *
    walk_at "re"
    walk_at "sq"
    refine w_join (t := tIfS _ _ _) (fun σ Hx => σ = [some (.str (SX.S w)), some (.int (n : Int)), some (.ref p)] ∧ Hx = H' ∧ v < n ∧ v ∉ u) ?_ fun key2 => ?_
    · rintro σ Hx ⟨rfl, rfl, h1, h2⟩
      have e : seatI n u w = (v : Int) := by
        unfold seatI seatU
        rw [eP, if_pos h1]
        show (match (if v ∈ u then none else some v : Option Nat) with | some v => (v : Int) | none => -1) = _
        rw [if_neg h2]
      rw [e] at k
      walk_at "re"
      exact hint k
    · refine w_if ?_
      refine w_or ?_
      walk_at "ex"
      refine hint ?_
      walk_at "ex"
      refine if_d (fun c => if_t rfl ?_) (fun c => ?_)
      · walk_at "re"
        have e : seatI n u w = -1 := by
          unfold seatI seatU
          rw [eP, if_neg (by omega)]
        rw [e] at k
        exact k
      walk_at "ex"
      refine hint ?_
      walk_at "ex"
      refine in_LNs (sqL hp) ?_
      walk_at "ex"
      refine if_d (fun c2 => ?_) (fun c2 => key2 _ _ ⟨rfl, rfl, by omega, c2⟩)
      walk_at "re"
      have e : seatI n u w = -1 := by
        unfold seatI seatU
        rw [eP, if_pos (by omega)]
        show (match (if v ∈ u then none else some v : Option Nat) with | some v => (v : Int) | none => -1) = _
        rw [if_pos c2]
      rw [e] at k
      exact k
  · have kb : (w = [] ∨ 2 < w.length ∨ (w.head? = some 48 ∧ 1 < w.length)) → Q (.int (-1)) H := fun h => by rw [← bad h]; exact k
    refine w_if ?_
    refine w_or ?_
    walk_at "ex"
    refine eq_SL ?_
    walk_at "ex"
    refine if_d (fun c => if_t rfl ?_) (fun c1 => ?_)
    · walk_at "re"
      exact kb (.inl c)
    refine w_or ?_
    walk_at "ex"
    refine len_SL (by omega) ?_
    walk_at "ex"
    refine if_d (fun c => if_t rfl ?_) (fun c2 => ?_)
    · walk_at "re"
      exact kb (.inr (.inl (by omega)))
    obtain ⟨c0, w', ew⟩ : ∃ c0 w', w = c0 :: w' := by
      cases w with
      | nil => exact absurd rfl c1
      | cons a b => exact ⟨a, b, rfl⟩
    refine w_and ?_
    walk_at "ex"
    refine ix_SL (i := 0) (c := c0) (by rw [ew] <;> rfl) (by omega) rfl ?_
    walk_at "ex"
    refine eq_SL ?_
    walk_at "ex"
    refine if_d (fun c3 => ?_) (fun c3 => ?_)
    · walk_at "ex"
      refine len_SL (by omega) ?_
      walk_at "ex"
      refine if_d (fun c4 => ?_) (fun c4 => key _ _ ⟨rfl, rfl, ?_⟩)
      · walk_at "re"
        refine kb (.inr (.inr ⟨?_, by omega⟩))
        rw [ew]
        have : c0 = 48 := by simpa using c3
        rw [this] <;> rfl
      · rintro (h | h | h)
        · exact c1 h
        · omega
        · omega
    · refine if_f rfl (key _ _ ⟨rfl, rfl, ?_⟩)
      rintro (h | h | h)
      · exact c1 h
      · omega
      · refine c3 ?_
        have h1 := h.1
        rw [ew] at h1
        have : c0 = 48 := Option.some.inj h1
        rw [this]
end Shf

/-! k08 walked -/
namespace Shf
open PySem L2
/-- what the reader holds -/
structure DAt (n i : Nat) (H : Hp) (l d q : Addr) (st : DSt) : Prop where
  row : H l = some (.lst (vN st.row))
  used : H d = some (.lst (vN st.used))
  ring : H q = some (.lst (vN st.ring))
  ld : l ≠ d
  lq : l ≠ q
  dq : d ≠ q
  len : st.row.length = n
  ul : st.used.length ≤ i
  rl : st.ring.length ≤ i
  wl : st.word.length ≤ i
  wd : st.word.all digB = true
  rlt : ∀ x ∈ st.ring, x < n
def sp_L_due_k08 (K : PySem.W.Frag) (g : Gd) : Sp := fun vs H Q _ => ∃ (t : List Nat) (n : Nat), vs = [.str (SX.S t), .int (n : Int)] ∧ t.length ≤ 10000 ∧ n ≤ 16 ∧ (readP n t = none → ∀ H', Same H H' → Q .non H') ∧ (∀ row, readP n t = some row → NewT H row Q)
theorem len_L_due_k08 (K : PySem.W.Frag) (g : Gd) (vs : List V) (H : Hp) (Q : VK) (E : XK) (h : sp_L_due_k08 K g vs H Q E) : vs.length = 2 := by obtain ⟨_, _, rfl, _⟩ := h; rfl
abbrev N_L_due_k08 : List Str := ["text", "size", "row", "used", "ring", "word", "inside", "sign", "seat", "k"]
/-- _law_due -/
def t_L_due_k08 (K : PySem.W.Frag) (g : Gd) (E : XK) : TS :=
  (tSeq (tIfS (tOr (tTest (tOp rEq (tVar 0) (tC (.str "()")))) (tTest (tOp rEq (tVar 0) (tC (.str ""))))) (tRet (tIf (tTest (tOp rEq (tVar 0) (tC (.str "()")))) (tTupRg (tRg1 (tVar 1))) (tC .non))) tNext)
    (tSeq (tAsg (tLstRg (tRg1 (tVar 1))) (gName 2))
    (tSeq (tAsg (tLst tNil) (gName 3))
    (tSeq (tAsg (tLst tNil) (gName 4))
    (tSeq (tAsg (tC (.str "")) (gName 5))
    (tSeq (tAsg (tC (.bl false)) (gName 6))
    (tSeq (tFor (iStr (tVar 0)) (gName 7) (tIfS (tAnd (tB (tVar 6)) (tTest (tOp rInS (tVar 7) (tC (.str " )"))))) (tSeq (tAsg (tCallS (sp_L_seat K g) (fun _ => E0) (tCons (tVar 5) (tCons (tVar 1) (tCons (tVar 3) tNil)))) (gName 8))
    (tSeq (tIfS (tTest (tOp rLtI (tVar 8) (tC (.int 0)))) (tRet (tC .non)) tNext)
    (tSeq (tDrop (tBM K "list" rAppend (tVar 3) (tCons (tVar 8) tNil)))
    (tSeq (tDrop (tBM K "list" rAppend (tVar 4) (tCons (tVar 8) tNil)))
    (tSeq (tAsg (tC (.str "")) (gName 5))
    (tIfS (tTest (tOp rEq (tVar 7) (tC (.str ")")))) (tSeq (tAsg (tC (.bl false)) (gName 6))
    (tSeq (tIfS (tTest (tOp rLtI (tCB (rLenQ K) (tCons (tVar 4) tNil)) (tC (.int 2)))) (tRet (tC .non)) tNext)
    (tFor (iRng1 (tCons (tCB (rLenQ K) (tCons (tVar 4) tNil)) tNil)) (gName 9) (tAsg (tOp (rIxL K) (tVar 4) (tVar 9)) (gSub (tVar 2) (tOp (rIxL K) (tVar 4) (tOp rSubI (tVar 9) (tC (.int 1)))) rSetL))))) tNext)))))) (tIfS (tAnd (tB (tVar 6)) (tTest (tOp rInS (tVar 7) (tC (.str "0123456789"))))) (tAsg (tOp rAddS (tVar 5) (tVar 7)) (gName 5)) (tIfS (tAnd (tTest (tOp rEq (tVar 7) (tC (.str "(")))) (tNot (tB (tVar 6)))) (tSeq (tAsg (tC (.bl true)) (gName 6))
    (tAsg (tLst tNil) (gName 4))) (tRet (tC .non))))))
    (tRet (tIf (tB (tVar 6)) (tC .non) (tCB (rTupOf K) (tCons (tVar 2) tNil)))))))))))
theorem pure_L_due_k08 {K : PySem.W.Frag} {g : Gd} (vs : List V) (H : Hp) (Q : VK) (E : XK) (h : sp_L_due_k08 K g vs H Q E) : Rd1 (t_L_due_k08 K g E) N_L_due_k08 vs H Q := by
  obtain ⟨t, n, rfl, ht, h16, hno, hyes⟩ := h
  rw [← due_read] at hno
  have hyes : ∀ row, dueP n t = some row → NewT H row Q := fun row h => hyes row (by rw [← due_read]; exact h)
  unfold t_L_due_k08
  rw [litP, lit0, lit_sp, litZ, litF, litA]
  walk_at "sq"
  refine w_join (t := tIfS _ _ _) (fun σ H' => σ = [some (.str (SX.S t)), some (.int (n : Int)), none, none, none, none, none, none, none, none] ∧ H' = H ∧ t ≠ [40, 41] ∧ t ≠ []) ?_ fun key => ?_
  · rintro σ H' ⟨rfl, rfl, c0, c1⟩
    have eD : dueP n t = (foldO (dstep n) ⟨List.range n, [], [], [], false⟩ t).bind fin := by unfold dueP; rw [if_neg c0, if_neg c1]
    rw [eD] at hno
    have hyes : ∀ row, (foldO (dstep n) ⟨List.range n, [], [], [], false⟩ t).bind fin = some row → NewT H' row Q := fun row h => hyes row (by rw [eD]; exact h)
    have hfold : foldO (dstep n) ⟨List.range n, [], [], [], false⟩ t = none → ∀ Hx, Same H' Hx → Q .non Hx := fun h => hno (by rw [h] <;> rfl)
    walk_at "re"
    walk_at "sq"
    walk_at "re"
    refine ⟨rgOk_N (by omega), fun l hl => ?_⟩
    rw [rgV_N]
    have s1 : Same H' (upd H' l (.lst (vN (List.range n)))) := (Same.refl H').new hl
    have hl1 : (upd H' l (.lst (vN (List.range n)))) l = some (.lst (vN (List.range n))) := upd_same
    generalize upd H' l (.lst (vN (List.range n))) = H1 at *
    walk_at "re"
    walk_at "sq"
    walk_at "re"
    refine ⟨zl (Nat.zero_le _), fun d hd => ?_⟩
    have hld : l ≠ d := ne_of_none hl1 hd
    have s2 := s1.new (o := .lst []) hd
    have sh2 := (Same.refl H1).new (o := .lst []) hd
    have hd0 := s1.free hd
    have hl2 := sh2 _ _ hl1
    have hd2 : (upd H1 d (.lst [])) d = some (.lst (vN [])) := upd_same
    generalize upd H1 d (.lst []) = H2 at *
    walk_at "re"
    walk_at "sq"
    walk_at "re"
    refine ⟨zl (Nat.zero_le _), fun q hq => ?_⟩
    have hlq : l ≠ q := ne_of_none hl2 hq
    have hdq : d ≠ q := ne_of_none hd2 hq
    have s3 := s2.new (o := .lst []) hq
    have sh3 := (Same.refl H2).new (o := .lst []) hq
    have hq0 := s2.free hq
    have hl3 := sh3 _ _ hl2
    have hd3 := sh3 _ _ hd2
    have hq3 : (upd H2 q (.lst [])) q = some (.lst (vN [])) := upd_same
    generalize upd H2 q (.lst []) = H3 at *
    walk_at "re"
    walk_at "sq"
    walk_at "re"
    walk_at "sq"
    walk_at "re"
    walk_at "sq"
    walk_at "st"
    refine w_istr ?_
    walk_at "ex"
    refine ⟨_, rfl, for_S (fun i σ Hx => ∃ (q : Addr) (st : DSt) (y7 y8 y9 : Option V), σ = [some (.str (SX.S t)), some (.int (n : Int)), some (.ref l), some (.ref d), some (.ref q), some (.str (SX.S st.word)), some (.bl st.ins), y7, y8, y9] ∧ Same H' Hx ∧ H' q = none ∧ foldO (dstep n) ⟨List.range n, [], [], [], false⟩ (t.take i) = some st ∧ DAt n i Hx l d q st) ?_ ?_ ?_⟩
    · exact ⟨q, ⟨List.range n, [], [], [], false⟩, none, none, none, rfl, s3, hq0, by rw [List.take_zero] <;> rfl, hl3, hd3, hq3, hld, hlq, hdq, List.length_range, Nat.le_refl _, Nat.le_refl _, Nat.le_refl _, rfl, fun x hx => by cases hx⟩
    · clear hl1 hd2 hq3 hl2 hd3 hl3 s1 s2 s3 sh2 sh3 hlq hdq hq hd hq0 H1 H2 H3 q
      rintro i c σ Hx hc ⟨q, ⟨row, used, ring, word, ins⟩, y7, y8, y9, rfl, sx, hq0, hfo, hAt⟩
      have hit : i < t.length := (List.getElem?_eq_some_iff.mp hc).1
      obtain ⟨hrow, hused, hring, hld, hlq, hdq, hlen, hul, hrl, hwl, hwd, hrlt⟩ := hAt
      have hnext : foldO (dstep n) ⟨List.range n, [], [], [], false⟩ (t.take (i + 1)) = dstep n ⟨row, used, ring, word, ins⟩ c := by rw [take_more hc]; exact foldO_snoc hfo
      have hfail : dstep n ⟨row, used, ring, word, ins⟩ c = none → ∀ Hz, Same H' Hz → Q .non Hz := fun h => hfold (by
        rw [← List.take_append_drop (i + 1) t]
        exact foldO_pre (by rw [hnext, h]))
      show tIfS _ _ _ _ (List.set _ 7 (some (V.str (SX.S [c])))) Hx
      refine w_if ?_
      refine w_and ?_
      walk_at "ex"
      have hrow : Hx l = some (.lst (vN row)) := hrow
      have hused : Hx d = some (.lst (vN used)) := hused
      have hring : Hx q = some (.lst (vN ring)) := hring
      have hlen : row.length = n := hlen
      have hul : used.length ≤ i := hul
      have hrl : ring.length ≤ i := hrl
      have hwl : word.length ≤ i := hwl
      have hwd : word.all digB = true := hwd
      have hrlt : ∀ x ∈ ring, x < n := hrlt
      cases ins with
      | true =>
        refine if_t rfl ?_
        walk_at "ex"
        refine in_S ?_
        walk_at "ex"
        refine if_d (fun c2 => ?_) (fun c2 => ?_)
        · have hcc : c = 32 ∨ c = 41 := by
            rcases List.mem_cons.mp c2 with h | h
            · exact .inl h
            · exact .inr (List.mem_singleton.mp h)
          have eS : dstep n ⟨row, used, ring, word, true⟩ c = (match seatU n used word with | none => none | some v => if c = 41 then (if ring.length + 1 < 2 then none else some ⟨laid (ring ++ [v]) row, used ++ [v], ring ++ [v], [], false⟩) else some ⟨row, used ++ [v], ring ++ [v], [], true⟩) := by
            unfold dstep
            rw [if_pos ⟨rfl, hcc⟩] <;> rfl
          walk_at "re"
          walk_at "sq"
          walk_at "re"
          refine ⟨word, used, n, d, rfl, by omega, hwd, hused, ?_⟩
          cases es : seatU n used word with
          | none =>
            have eI : seatI n used word = -1 := by unfold seatI; rw [es]
            rw [es] at eS
            rw [eI]
            walk_at "re"
            walk_at "sq"
            walk_at "st"
            walk_at "ex"
            refine if_d (fun _ => ?_) (fun z => absurd (by decide) z)
            walk_at "re"
            exact hfail eS Hx sx
          | some v =>
            have eI : seatI n used word = (v : Int) := by unfold seatI; rw [es]
            obtain ⟨hv, _⟩ := seatU_some es
            have hvn := seatP_lt hv
            rw [es] at eS
            have eS : dstep n ⟨row, used, ring, word, true⟩ c = (if c = 41 then (if ring.length + 1 < 2 then none else some ⟨laid (ring ++ [v]) row, used ++ [v], ring ++ [v], [], false⟩) else some ⟨row, used ++ [v], ring ++ [v], [], true⟩) := eS
            rw [eI]
            walk_at "re"
            walk_at "sq"
            walk_at "st"
            walk_at "ex"
            refine if_d (fun z => by omega) (fun _ => ?_)
            walk_at "re"
            walk_at "sq"
            walk_at "re"
            refine ⟨isL (sqL hused), ?_⟩
            walk_at "re"
            refine app_N hused (by omega) ?_
            have sx2 : Same H' (upd Hx d (.lst (vN (used ++ [v])))) := sx.up hd0
            have hr2 : (upd Hx d (.lst (vN (used ++ [v])))) l = some (.lst (vN row)) := by rw [upd_ne hld]; exact hrow
            have hu2 : (upd Hx d (.lst (vN (used ++ [v])))) d = some (.lst (vN (used ++ [v]))) := upd_same
            have hg2 : (upd Hx d (.lst (vN (used ++ [v])))) q = some (.lst (vN ring)) := by rw [upd_ne hdq.symm]; exact hring
            generalize upd Hx d (.lst (vN (used ++ [v]))) = H2 at *
            walk_at "re"
            walk_at "sq"
            walk_at "re"
            refine ⟨isL (sqL hg2), ?_⟩
            walk_at "re"
            refine app_N hg2 (by omega) ?_
            have sx3 : Same H' (upd H2 q (.lst (vN (ring ++ [v])))) := sx2.up hq0
            have hr3 : (upd H2 q (.lst (vN (ring ++ [v])))) l = some (.lst (vN row)) := by rw [upd_ne hlq]; exact hr2
            have hu3 : (upd H2 q (.lst (vN (ring ++ [v])))) d = some (.lst (vN (used ++ [v]))) := by rw [upd_ne hdq]; exact hu2
            have hg3 : (upd H2 q (.lst (vN (ring ++ [v])))) q = some (.lst (vN (ring ++ [v]))) := upd_same
            generalize upd H2 q (.lst (vN (ring ++ [v]))) = H3 at *
            have hrlen : (ring ++ [v]).length = ring.length + 1 := by rw [List.length_append] <;> rfl
            have hulen : (used ++ [v]).length = used.length + 1 := by rw [List.length_append] <;> rfl
            have hrlt2 : ∀ x ∈ ring ++ [v], x < n := fun x hx => by
              rcases List.mem_append.mp hx with h | h
              · exact hrlt x h
              · rw [List.mem_singleton.mp h]; exact hvn
            rw [← hrlen] at eS
            generalize ring ++ [v] = ring' at *
            generalize used ++ [v] = used' at *
            walk_at "re"
            walk_at "sq"
            walk_at "re"
            walk_at "st"
            walk_at "ex"
            refine eq_SL ?_
            walk_at "ex"
            refine if_d (fun z => ?_) (fun z => ?_)
            · have ec : c = 41 := by simpa using z
              rw [if_pos ec] at eS
              walk_at "sq"
              walk_at "re"
              walk_at "sq"
              walk_at "st"
              walk_at "ex"
              refine len_LN (sqL hg3) ?_
              walk_at "ex"
              refine if_d (fun z2 => ?_) (fun z2 => ?_)
              · walk_at "re"
                exact hfail (by rw [eS, if_pos (by omega)]) H3 sx3
              rw [if_neg (by omega)] at eS
              walk_at "re"
              walk_at "st"
              walk_at "re"
              refine len_LN (sqL hg3) ?_
              refine w_for1 (by omega) (fun j σ Hz => ∃ y9, σ = [some (.str (SX.S t)), some (.int (n : Int)), some (.ref l), some (.ref d), some (.ref q), some (.str (SX.S [])), some (.bl false), some (.str (SX.S [c])), some (.int (v : Int)), y9] ∧ Same H' Hz ∧ Hz l = some (.lst (vN (layK ring' row j))) ∧ Hz d = some (.lst (vN used')) ∧ Hz q = some (.lst (vN ring'))) ⟨y9, rfl, sx3, hr3, hu3, hg3⟩ ?_ ?_
              · rintro j σ Hz hj ⟨y9, rfl, sz, hrz, huz, hgz⟩
                walk_at "st"
                walk_at "re"
                refine ix_LN (i := j) (sqL hgz) hj rfl ?_
                walk_at "re"
                refine ix_prev (sqL hgz) hj ?_
                refine set_N (i := ring'.getD ((j + (ring'.length - 1)) % ring'.length) 0) hrz (by rw [layK_len, hlen]; exact hrlt2 _ (List.mem_of_getElem? (getD_at (Nat.mod_lt _ (by omega))))) rfl ?_
                rw [← layK_succ]
                exact ⟨some (.int (j : Int)), rfl, sz.up hl, upd_same, by rw [upd_ne hld.symm]; exact huz, by rw [upd_ne hlq.symm]; exact hgz⟩
              · rintro σ Hz ⟨y9, rfl, sz, hrz, huz, hgz⟩
                exact ⟨q, ⟨laid ring' row, used', ring', [], false⟩, _, _, _, rfl, sz, hq0, by rw [hnext, eS], hrz, huz, hgz, hld, hlq, hdq, (layK_len ring' row ring'.length).trans hlen, by show used'.length ≤ i + 1; omega, by show ring'.length ≤ i + 1; omega, Nat.zero_le _, rfl, hrlt2⟩
            · have ec : c ≠ 41 := fun e => z (by rw [e])
              rw [if_neg ec] at eS
              walk_at "rd"
              exact ⟨q, ⟨row, used', ring', [], true⟩, _, _, _, rfl, sx3, hq0, by rw [hnext, eS], hr3, hu3, hg3, hld, hlq, hdq, hlen, by show used'.length ≤ i + 1; omega, by show ring'.length ≤ i + 1; omega, Nat.zero_le _, rfl, hrlt2⟩
        · have hcc : ¬ (true = true ∧ (c = 32 ∨ c = 41)) := by
            rintro ⟨_, h | h⟩
            · exact c2 (by rw [h]; exact List.mem_cons_self)
            · exact c2 (by rw [h]; exact List.mem_cons_of_mem _ (List.mem_singleton.mpr rfl))
          refine w_if ?_
          refine w_and ?_
          walk_at "ex"
          refine in_S ?_
          walk_at "ex"
          refine if_d (fun c3 => ?_) (fun c3 => ?_)
          · have hdig := dig_in.mp c3
            walk_at "re"
            refine add_S (by omega) (by show 1 ≤ 40000; decide) ?_
            refine ⟨q, ⟨row, used, ring, word ++ [c], true⟩, _, _, _, rfl, sx, hq0, ?_, hrow, hused, hring, hld, hlq, hdq, hlen, by show used.length ≤ i + 1; omega, by show ring.length ≤ i + 1; omega, by show (word ++ [c]).length ≤ i + 1; rw [List.length_append]; show _ + 1 ≤ _; omega, ?_, hrlt⟩
            · rw [hnext]
              unfold dstep
              rw [if_neg hcc, if_pos ⟨rfl, hdig⟩]
            · show (word ++ [c]).all digB = true
              rw [List.all_append, hwd, List.all_cons, hdig] <;> rfl
          · have hN : dstep n ⟨row, used, ring, word, true⟩ c = none := by
              unfold dstep
              rw [if_neg hcc, if_neg (fun z => c3 (dig_in.mpr z.2)), if_neg (fun z => by cases z.2)]
            refine w_if ?_
            refine w_and ?_
            walk_at "ex"
            refine eq_SL ?_
            walk_at "ex"
            refine if_d (fun c4 => ?_) (fun c4 => ?_)
            · walk_at "ex"
              refine if_f rfl ?_
              walk_at "re"
              exact hfail hN Hx sx
            · refine if_f rfl ?_
              walk_at "re"
              exact hfail hN Hx sx
      | false =>
        refine if_f rfl ?_
        refine if_f rfl ?_
        refine w_if ?_
        refine w_and ?_
        walk_at "ex"
        refine w_and ?_
        walk_at "ex"
        refine eq_SL ?_
        walk_at "ex"
        refine if_d (fun c4 => ?_) (fun c4 => ?_)
        · have ec : c = 40 := by simpa using c4
          walk_at "ex"
          refine if_t rfl ?_
          walk_at "re"
          walk_at "sq"
          walk_at "re"
          refine ⟨zl (Nat.zero_le _), fun q2 hq2 => ?_⟩
          have hlq2 : l ≠ q2 := ne_of_none hrow hq2
          have hdq2 : d ≠ q2 := ne_of_none hused hq2
          refine ⟨q2, ⟨row, used, [], word, true⟩, _, _, _, rfl, sx.new hq2, sx.free hq2, ?_, by rw [upd_ne hlq2]; exact hrow, by rw [upd_ne hdq2]; exact hused, upd_same, hld, hlq2, hdq2, hlen, by show used.length ≤ i + 1; omega, Nat.zero_le _, by show word.length ≤ i + 1; omega, hwd, fun x hx => by cases hx⟩
          rw [hnext]
          unfold dstep
          rw [if_neg (fun z => by cases z.1), if_neg (fun z => by cases z.1), if_pos ⟨ec, rfl⟩]
        · refine if_f rfl ?_
          walk_at "re"
          exact hfail (out_bad rfl fun e => c4 (by rw [e])) Hx sx
    · rintro σ Hx ⟨q, st, y7, y8, y9, rfl, sx, hq0, hfo, hAt⟩
      rw [List.take_length] at hfo
      rw [hfo] at hno hyes
      have hno : st.ins = true → ∀ Hz, Same H' Hz → Q .non Hz := fun h => hno (by show fin st = none; unfold fin; rw [if_pos h])
      have hyes : st.ins = false → NewT H' st.row Q := fun h => hyes st.row (by show fin st = _; unfold fin; rw [h] <;> rfl)
      walk_at "st"
      refine w_ife ?_
      walk_at "ex"
      refine if_b (fun e => ?_) (fun e => ?_)
      · walk_at "ex"
        exact hno e Hx sx
      · walk_at "ex"
        refine tup_L (sqL hAt.row) fun r hr => ?_
        exact hyes e r _ (sx.new hr) (sx.free hr) upd_same
  · refine w_if ?_
    refine w_or ?_
    walk_at "ex"
    refine eq_SL ?_
    walk_at "ex"
    refine if_d (fun c => if_t rfl ?_) (fun c1 => ?_)
    · walk_at "st"
      refine w_ife ?_
      walk_at "ex"
      refine eq_SL ?_
      walk_at "ex"
      refine if_d (fun _ => ?_) (fun c2 => absurd c c2)
      walk_at "re"
      refine ⟨rgOk_N (by omega), fun r hr => ?_⟩
      rw [rgV_N]
      exact hyes (List.range n) (by unfold dueP; rw [if_pos c]) r _ ((Same.refl H).new hr) hr upd_same
    · walk_at "ex"
      refine eq_SL ?_
      walk_at "ex"
      refine if_d (fun c => ?_) (fun c => key _ _ ⟨rfl, rfl, c1, c⟩)
      walk_at "st"
      refine w_ife ?_
      walk_at "ex"
      refine eq_SL ?_
      walk_at "ex"
      refine if_d (fun c2 => absurd c2 c1) (fun _ => ?_)
      walk_at "re"
      exact hno (by unfold dueP; rw [if_neg c1, if_pos c]) _ (Same.refl H)
end Shf

/-! k08, its end -/
namespace Shf
open PySem L2
--@extra exm NotRead RoomError
--@extra exm NoSize RoomError
--@extra isE NotRead
--@extra isE NoSize
--@extra kit NotRead NotRead true
--@extra kit NotRead NoSize false
--@extra kit NotRead Unreached false
--@extra kit NoSize NotRead false
--@extra kit NoSize NoSize true
--@extra kit NoSize Unreached false
--@extra kitT NotRead ValueError true
--@extra kitT NoSize ValueError true
--@facts k08:_law_refused m_NotRead_RoomError m_NoSize_RoomError e_NotRead e_NoSize k_NotRead_NotRead k_NotRead_NoSize k_NotRead_ValueError k_NotRead_Unreached k_NoSize_NotRead k_NoSize_NoSize k_NoSize_ValueError k_NoSize_Unreached
def sp_L_refused_k08 (K : PySem.W.Frag) (g : Gd) : Sp := fun vs H Q _ => ∃ (t : List Nat) (n : Nat), vs = [.str (SX.S t), .int (n : Int)] ∧ t.length ≤ 10000 ∧ n ≤ 16 ∧ (1 ≤ n → readP n t = none) ∧
  ∀ (r : Addr) (H' : Hp), Same H H' → H' r = some (.tup (vB [decide (1 ≤ n), !decide (1 ≤ n), true, false])) → Q (.ref r) H'
theorem len_L_refused_k08 (K : PySem.W.Frag) (g : Gd) (vs : List V) (H : Hp) (Q : VK) (E : XK) (h : sp_L_refused_k08 K g vs H Q E) : vs.length = 2 := by obtain ⟨_, _, rfl, _⟩ := h; rfl
abbrev N_L_refused_k08 : List Str := ["text", "size", "told", "e"]
/-- _law_refused -/
def t_L_refused_k08 (K : PySem.W.Frag) (g : Gd) (E : XK) : TS :=
  (tSeq (tAsg (tC .non) (gName 2))
    (tSeq (fun D σ H => (fun W => (tDrop (tCallS (sp_read K g) (WE W) (tCons (tVar 0) (tCons (tVar 1) tNil))))) (wAs K (.ref g.RoomError) 3 (fun a cls d => (tAsg (tTup (tCons (tCB (rIsE2 K cls d a) (tCons (tVar 3) (tCons (tC (.ref g.NotRead)) tNil))) (tCons (tCB (rIsE2 K cls d a) (tCons (tVar 3) (tCons (tC (.ref g.NoSize)) tNil))) (tCons (tCB (rIsE2 K cls d a) (tCons (tVar 3) (tCons (tC (.ty "ValueError")) tNil))) (tCons (tCB (rIsE2 K cls d a) (tCons (tVar 3) (tCons (tC (.ref g.Unreached)) tNil))) tNil))))) (gName 2))) (wE E) D) D σ H)
    (tRet (tVar 2))))
theorem pure_L_refused_k08 {K : PySem.W.Frag} {g : Gd} (m1 : PySem.W.exmOne K (.ref g.NotRead) (.ref g.RoomError) = some true) (m2 : PySem.W.exmOne K (.ref g.NoSize) (.ref g.RoomError) = some true)
    (x1 : ExcC K g.NotRead) (x2 : ExcC K g.NoSize)
    (a1 : PySem.W.kitOne K (.ref g.NotRead) (.ref g.NotRead) = some true) (a2 : PySem.W.kitOne K (.ref g.NotRead) (.ref g.NoSize) = some false) (a3 : PySem.W.kitOne K (.ref g.NotRead) (.type "ValueError") = some true) (a4 : PySem.W.kitOne K (.ref g.NotRead) (.ref g.Unreached) = some false)
    (b1 : PySem.W.kitOne K (.ref g.NoSize) (.ref g.NotRead) = some false) (b2 : PySem.W.kitOne K (.ref g.NoSize) (.ref g.NoSize) = some true) (b3 : PySem.W.kitOne K (.ref g.NoSize) (.type "ValueError") = some true) (b4 : PySem.W.kitOne K (.ref g.NoSize) (.ref g.Unreached) = some false)
    (vs : List V) (H : Hp) (Q : VK) (E : XK) (h : sp_L_refused_k08 K g vs H Q E) : Rd1 (t_L_refused_k08 K g E) N_L_refused_k08 vs H Q := by
  obtain ⟨t, n, rfl, ht, h16, hno, k⟩ := h
  unfold t_L_refused_k08
  walk_at "rd"
  refine ⟨t, _, rfl, ht, fun hz => ?_, fun m em m1' m16 => ?_⟩
  · refine ⟨true, m2, fun _ ea hea => ?_, fun z => by cases z⟩
    walk_at "rd"
    refine is_E x2 b1 ?_
    walk_at "rd"
    refine is_E x2 b2 ?_
    walk_at "rd"
    refine is_ET x2 b3 ?_
    walk_at "rd"
    refine is_E x2 b4 ?_
    walk_at "rd"
    refine ⟨zl (by show 4 ≤ 100000; decide), fun r hr => ?_⟩
    walk_at "rd"
    refine k r _ ((Same.refl H).new hr) ?_
    rw [upd_same, decide_eq_false (by omega)] <;> rfl
  · have em : m = n := by omega
    rw [em] at m1' ⊢
    refine ⟨fun _ H2 s2 => ?_, fun row e => (by rw [hno m1'] at e; cases e)⟩
    refine ⟨true, m1, fun _ ea hea => ?_, fun z => by cases z⟩
    walk_at "rd"
    refine is_E x1 a1 ?_
    walk_at "rd"
    refine is_E x1 a2 ?_
    walk_at "rd"
    refine is_ET x1 a3 ?_
    walk_at "rd"
    refine is_E x1 a4 ?_
    walk_at "rd"
    refine ⟨zl (by show 4 ≤ 100000; decide), fun r hr => ?_⟩
    walk_at "rd"
    refine k r _ (s2.new hr) ?_
    rw [upd_same, decide_eq_true m1'] <;> rfl
abbrev N_law_k08 : List Str := ["script", "size", "text", "due"]
/-- law -/
def t_law_k08 (K : PySem.W.Frag) (g : Gd) (E : XK) : TS :=
  (tSeq (tAsg (tOp rAddI (tC (.int 1)) (tOp rModI (tCallS (sp_L_cell_at K g) (fun _ => E0) (tCons (tVar 0) (tCons (tC (.int 0)) tNil))) (tC (.int 16)))) (gName 1))
    (tSeq (tAsg (tCallS (sp_L_text K g) (fun _ => E0) (tCons (tCallS (sp_L_rings_k08 K g) (fun _ => E0) (tCons (tCallS (sp_L_far K g) (fun _ => E0) (tCons (tCallS (sp_L_cell_at K g) (fun _ => E0) (tCons (tVar 0) (tCons (tC (.int 1)) tNil))) (tCons (tVar 1) tNil))) tNil)) (tCons (tCallS (sp_L_cell_at K g) (fun _ => E0) (tCons (tVar 0) (tCons (tC (.int 2)) tNil))) tNil))) (gName 2))
    (tSeq (tIfS (tTest (tOp rEq (tOp rModI (tCallS (sp_L_cell_at K g) (fun _ => E0) (tCons (tVar 0) (tCons (tC (.int 3)) tNil))) (tC (.int 3))) (tC (.int 1)))) (tAsg (tCallS (sp_L_changed K g) (fun _ => E0) (tCons (tVar 2) (tCons (tCallS (sp_L_cell_at K g) (fun _ => E0) (tCons (tVar 0) (tCons (tC (.int 4)) tNil))) (tCons (tCallS (sp_L_cell_at K g) (fun _ => E0) (tCons (tVar 0) (tCons (tC (.int 5)) tNil))) tNil)))) (gName 2)) tNext)
    (tSeq (tIfS (tTest (tOp rEq (tOp rModI (tOp rDivI (tCallS (sp_L_cell_at K g) (fun _ => E0) (tCons (tVar 0) (tCons (tC (.int 3)) tNil))) (tC (.int 3))) (tC (.int 8))) (tC (.int 1)))) (tAsg (tCallS (sp_L_odd K g) (fun _ => E0) (tCons (tCallS (sp_L_cell_at K g) (fun _ => E0) (tCons (tVar 0) (tCons (tC (.int 4)) tNil))) tNil)) (gName 2)) tNext)
    (tSeq (tIfS (tTest (tOp rEq (tOp rModI (tOp rDivI (tCallS (sp_L_cell_at K g) (fun _ => E0) (tCons (tVar 0) (tCons (tC (.int 0)) tNil))) (tC (.int 16))) (tC (.int 4))) (tC (.int 1)))) (tAsg (tOp rAddI (tC (.int 1)) (tOp rModI (tOp rDivI (tCallS (sp_L_cell_at K g) (fun _ => E0) (tCons (tVar 0) (tCons (tC (.int 0)) tNil))) (tC (.int 64))) (tC (.int 16)))) (gName 1)) tNext)
    (tSeq (tAsg (tCallS (sp_L_due_k08 K g) (fun _ => E0) (tCons (tVar 2) (tCons (tVar 1) tNil))) (gName 3))
    (tSeq (tIfS (tTest (tOp rIsN (tVar 3) (tC .non))) (tSeq (tIfS (tTest (tOp (rNeD K) (tCallS (sp_L_refused_k08 K g) (fun _ => E0) (tCons (tVar 2) (tCons (tC (.int 0)) tNil))) (tTup (tCons (tC (.bl false)) (tCons (tC (.bl true)) (tCons (tC (.bl true)) (tCons (tC (.bl false)) tNil))))))) (tRet (tC (.bl false))) tNext)
    (tRet (tOp (rEqD K) (tCallS (sp_L_refused_k08 K g) (fun _ => E0) (tCons (tVar 2) (tCons (tVar 1) tNil))) (tTup (tCons (tC (.bl true)) (tCons (tC (.bl false)) (tCons (tC (.bl true)) (tCons (tC (.bl false)) tNil)))))))) tNext)
    (tRet (tCallS (sp_L_same K g) (fun _ => E0) (tCons (tCallS (sp_read K g) (WE (wE E)) (tCons (tVar 2) (tCons (tVar 1) tNil))) (tCons (tVar 3) tNil)))))))))))
theorem pure_law_k08 {K : PySem.W.Frag} {g : Gd} (vs : List V) (H : Hp) (Q : VK) (E : XK) (h : sp_law K vs H Q E) : Rd1 (t_law_k08 K g E) N_law_k08 vs H Q := by
  obtain ⟨a, ns, rfl, hS, _, k⟩ := h
  unfold t_law_k08
  walk_at "rd"
  refine ⟨a, ns, 0, rfl, hS, ?_⟩
  walk_at "rd"
  refine mod_I (by decide) ?_
  obtain ⟨n, hn, h1, h2⟩ := size16 (ns.getD 0 0)
  walk_at "rd"
  rw [hn]
  refine ⟨a, ns, 1, rfl, hS, ?_⟩
  walk_at "rd"
  refine ⟨_, n, rfl, by omega, fun p H1 s1 _ hp => ?_⟩
  walk_at "rd"
  refine ⟨p, n, _, rfl, sqT hp, isP_far _ _, h2, fun r H2 ws s2 hr0 hr hwl hOk => ?_⟩
  have s12 := s1.trans s2
  walk_at "rd"
  refine ⟨a, ns, 2, rfl, s12.seq hS, ?_⟩
  walk_at "rd"
  refine ⟨r, _, ws, rfl, hr, hwl, hOk, fun t0 H3 s3 ht0 => ?_⟩
  have s13 := s12.trans s3
  have hS3 := s13.seq hS
  clear hOk hr hr0 hp s12 s2 s1 s3 s13
  walk_at "re"
  walk_at "sq"
  refine w_join (t := tIfS _ _ _) (fun σ H' => ∃ t : List Nat, σ = [some (.ref a), some (.int (n : Int)), some (.str (SX.S t)), none] ∧ t.length ≤ 2000 ∧ SqL K H' a (vI ns)) ?_ fun key => ?_
  · rintro σ H4 ⟨t, rfl, ht, hS4⟩
    walk_at "sq"
    refine w_join (t := tIfS _ _ _) (fun σ H' => ∃ t : List Nat, σ = [some (.ref a), some (.int (n : Int)), some (.str (SX.S t)), none] ∧ t.length ≤ 2000 ∧ SqL K H' a (vI ns)) ?_ fun key => ?_
    · clear hS4 ht t H4
      rintro σ H4 ⟨t, rfl, ht, hS4⟩
      walk_at "sq"
      refine w_join (t := tIfS _ _ _) (fun σ H' => ∃ m : Nat, σ = [some (.ref a), some (.int (m : Int)), some (.str (SX.S t)), none] ∧ 1 ≤ m ∧ m ≤ 16) ?_ fun key => ?_
      · rintro σ H5 ⟨m, rfl, q1, q2⟩
        walk_at "re"
        walk_at "sq"
        walk_at "re"
        refine ⟨t, m, rfl, by omega, q2, fun hno H6 s6 => ?_, fun row hrow d H6 s6 hd0 hd => ?_⟩
        · walk_at "re"
          walk_at "sq"
          walk_at "st"
          walk_at "ex"
          refine ⟨rfl, _, rfl, if_d (fun _ => ?_) (fun z => absurd rfl z)⟩
          walk_at "sq"
          walk_at "st"
          walk_at "ex"
          refine ⟨t, 0, rfl, by omega, by decide, fun z => absurd z (by decide), fun r1 H7 s7 hr1 => ?_⟩
          walk_at "ex"
          refine ⟨zl (by show 4 ≤ 100000; decide), fun d1 hd1 => ?_⟩
          refine ne_TB (a := [false, true, true, false]) (b := [false, true, true, false]) (sqT (by rw [upd_ne (ne_of_none hr1 hd1)]; exact hr1)) (sqT upd_same) ?_
          walk_at "ex"
          refine if_nd (fun c => absurd rfl c) fun _ => ?_
          walk_at "re"
          refine ⟨t, m, rfl, by omega, q2, fun _ => hno, fun r2 H8 s8 hr2 => ?_⟩
          rw [decide_eq_true q1] at hr2
          walk_at "re"
          refine ⟨zl (by show 4 ≤ 100000; decide), fun d2 hd2 => ?_⟩
          refine eq_TB (a := [true, false, true, false]) (b := [true, false, true, false]) (sqT (by rw [upd_ne (ne_of_none hr2 hd2)]; exact hr2)) (sqT upd_same) ?_
          rw [decide_eq_true rfl]
          exact k _
        · walk_at "re"
          walk_at "sq"
          walk_at "st"
          walk_at "ex"
          refine ⟨rfl, _, rfl, if_d (fun z => by cases z) (fun _ => ?_)⟩
          walk_at "re"
          refine ⟨t, _, rfl, by omega, fun c => absurd ⟨by omega, by omega⟩ c, fun m2 em _ _ => ?_⟩
          have em : m2 = m := by omega
          rw [em, hrow]
          refine ⟨(fun c => by cases c), fun row2 er r H8 s8 hr0 hr => ?_⟩
          have er := Option.some.inj er
          subst er
          walk_at "re"
          refine ⟨r, d, row, row, rfl, hr, sqT (s8 _ _ hd), ?_⟩
          rw [decide_eq_true rfl]
          exact k _
      · walk_at "rd"
        refine ⟨a, ns, 0, rfl, hS4, ?_⟩
        walk_at "rd"
        refine div_I (by decide) (by decide) ?_
        walk_at "rd"
        refine mod_I (by decide) ?_
        walk_at "rd"
        refine if_d (fun c => ?_) (fun c => key _ _ ⟨n, rfl, h1, h2⟩)
        walk_at "rd"
        refine ⟨a, ns, 0, rfl, hS4, ?_⟩
        walk_at "rd"
        refine div_I (by decide) (by decide) ?_
        walk_at "rd"
        refine mod_I (by decide) ?_
        walk_at "ex"
        obtain ⟨m, hm, q1, q2⟩ := size16 (ns.getD 0 0 / 64)
        rw [hm]
        exact key _ _ ⟨m, rfl, q1, q2⟩
    · walk_at "rd"
      refine ⟨a, ns, 3, rfl, hS4, ?_⟩
      walk_at "rd"
      refine div_I (by decide) (by decide) ?_
      walk_at "rd"
      refine mod_I (by decide) ?_
      walk_at "rd"
      refine if_d (fun c => ?_) (fun c => key _ _ ⟨t, rfl, ht, hS4⟩)
      walk_at "rd"
      refine ⟨a, ns, 4, rfl, hS4, ?_⟩
      walk_at "rd"
      refine ⟨_, rfl, fun w H5 s5 hw => ?_⟩
      obtain ⟨l, rfl, hl⟩ := str_S w
      exact key _ _ ⟨l, rfl, by omega, s5.seq hS4⟩
  · walk_at "rd"
    refine ⟨a, ns, 3, rfl, hS3, ?_⟩
    walk_at "rd"
    refine mod_I (by decide) ?_
    walk_at "rd"
    refine if_d (fun c => ?_) (fun c => key _ _ ⟨t0, rfl, by omega, hS3⟩)
    walk_at "rd"
    refine ⟨a, ns, 4, rfl, hS3, ?_⟩
    walk_at "rd"
    refine ⟨a, ns, 5, rfl, hS3, ?_⟩
    walk_at "rd"
    refine ⟨_, _, _, rfl, by rw [SX.S_len]; omega, fun w hw => ?_⟩
    obtain ⟨l, rfl, hl⟩ := str_S w
    rw [SX.S_len, SX.S_len] at hw
    exact key _ _ ⟨l, rfl, by omega, hS3⟩
end Shf

namespace Shf
open PySem L2
def top (i : Nat) : Stmt := PySem.Challenge.pw_shiftroom_k08_read.main.body.getD i (.Pass ⟨0, 0, 0, 0⟩)
abbrev s_L_cell_at : Stmt := top 14
abbrev s_L_sign : Stmt := top 20
abbrev s_L_changed : Stmt := top 21
abbrev s_L_seat : Stmt := top 23
abbrev s_L_due_k08 : Stmt := top 24
abbrev s_L_far : Stmt := top 16
abbrev s_L_odd : Stmt := top 22
abbrev s_ask_size : Stmt := top 7
abbrev s_rest : Stmt := top 8
abbrev s_seat_of : Stmt := top 11
abbrev s_read : Stmt := top 12
abbrev s_L_refused_k08 : Stmt := top 25
abbrev s_L_rings_k08 : Stmt := top 18
abbrev s_L_whole : Stmt := top 15
abbrev s_L_same : Stmt := top 17
abbrev s_L_text : Stmt := top 19
abbrev s_law_k08 : Stmt := top 26
structure Txt (K : PySem.W.Frag) (mg : Str → Option Value) (g : Gd) : Prop where
  z_ValueError : mg "ValueError" = none
  z_bool : mg "bool" = none
  z_int : mg "int" = none
  z_isinstance : mg "isinstance" = none
  z_len : mg "len" = none
  z_list : mg "list" = none
  z_min : mg "min" = none
  z_range : mg "range" = none
  z_str : mg "str" = none
  z_tuple : mg "tuple" = none
  c_FIGURES : ∃ t, mg "FIGURES" = some (.str "0123456789" t)
  c_MOST : ∃ t, mg "MOST" = some (.int 16 t)
  g_NoSize : mg "NoSize" = some (.ref g.NoSize)
  g_NotRead : mg "NotRead" = some (.ref g.NotRead)
  g_RoomError : mg "RoomError" = some (.ref g.RoomError)
  g_Unreached : mg "Unreached" = some (.ref g.Unreached)
  x_NoSize : ExB K mg "NoSize" g.NoSize
  x_NotRead : ExB K mg "NotRead" g.NotRead
  x_RoomError : ExB K mg "RoomError" g.RoomError
  x_Unreached : ExB K mg "Unreached" g.Unreached
  m_NotRead_RoomError : PySem.W.exmOne K (.ref g.NotRead) (.ref g.RoomError) = some true
  m_NoSize_RoomError : PySem.W.exmOne K (.ref g.NoSize) (.ref g.RoomError) = some true
  e_NotRead : ExcC K g.NotRead
  e_NoSize : ExcC K g.NoSize
  k_NotRead_NotRead : PySem.W.kitOne K (.ref g.NotRead) (.ref g.NotRead) = some true
  k_NotRead_NoSize : PySem.W.kitOne K (.ref g.NotRead) (.ref g.NoSize) = some false
  k_NotRead_Unreached : PySem.W.kitOne K (.ref g.NotRead) (.ref g.Unreached) = some false
  k_NoSize_NotRead : PySem.W.kitOne K (.ref g.NoSize) (.ref g.NotRead) = some false
  k_NoSize_NoSize : PySem.W.kitOne K (.ref g.NoSize) (.ref g.NoSize) = some true
  k_NoSize_Unreached : PySem.W.kitOne K (.ref g.NoSize) (.ref g.Unreached) = some false
  k_NotRead_ValueError : PySem.W.kitOne K (.ref g.NotRead) (.type "ValueError") = some true
  k_NoSize_ValueError : PySem.W.kitOne K (.ref g.NoSize) (.type "ValueError") = some true
section
variable {P : Program} {w : World} {K : PySem.W.Frag} {mg : Str → Option Value} {base : Heap} {g : Gd}
theorem sc_L_cell_at : FnScope N_L_cell_at ["script", "k"] (defScope s_L_cell_at) := ⟨rfl, rfl, rfl, by decide +kernel, rfl, by decide +kernel, by decide +kernel⟩
theorem ok_L_cell_at {f : Addr} {fd : FuncData} (T : Txt K mg g) (F : Fun K "_law_cell_at" "_law_cell_at" s_L_cell_at f fd)  : FnOk P w K mg base (L2.CX P w) 1 f fd ["script", "k"] (sp_L_cell_at K g) := by
  refine F.okX sc_L_cell_at (fun vs H Q E h => len_L_cell_at K g vs H Q E h) (fun cdv A outer s H vs Q E hr h => ⟨t_L_cell_at K g E, ?_, pure_L_cell_at  vs H Q E h⟩)
  have hu := hu_of hr
  have tkE : Takes (cxOf (L2.CX P w) P w K mg base N_L_cell_at "_law_cell_at" (defScope s_L_cell_at) f cdv A outer s H E) (wE E) := takes_of rfl rfl rfl rfl
  exact (pss_cons (ps_if (pt_cmpR op_lt (pv 1) (pe_callB call_len_seq (by rfl) T.z_len PySem.boot_len (pa_cons (pv 0) pa_nil)) (nomark _)) (pss_one (ps_ret (pe_ix ix_list (pv 0) (pv 1) (fun _ _ => rfl)))) pss_nil)
    (pss_one (ps_ret pe_int)))
theorem sc_L_sign : FnScope N_L_sign ["cell"] (defScope s_L_sign) := ⟨rfl, rfl, rfl, by decide +kernel, rfl, by decide +kernel, by decide +kernel⟩
theorem ok_L_sign {f : Addr} {fd : FuncData} (T : Txt K mg g) (F : Fun K "_law_sign" "_law_sign" s_L_sign f fd)  : FnOk P w K mg base (L2.CX P w) 1 f fd ["cell"] (sp_L_sign K g) := by
  refine F.okX sc_L_sign (fun vs H Q E h => len_L_sign K g vs H Q E h) (fun cdv A outer s H vs Q E hr h => ⟨t_L_sign K g E, ?_, pure_L_sign  vs H Q E h⟩)
  have hu := hu_of hr
  have tkE : Takes (cxOf (L2.CX P w) P w K mg base N_L_sign "_law_sign" (defScope s_L_sign) f cdv A outer s H E) (wE E) := takes_of rfl rfl rfl rfl
  exact (pss_cons (ps_set (i := 1) sc_L_sign.nd rfl (Or.inl rfl) pe_str)
    (pss_cons (ps_set (i := 1) sc_L_sign.nd rfl (Or.inl rfl) (pe_op op_add_str (pe_op op_add_str (pv 1) pe_str) pe_str))
    (pss_one (ps_ret (pe_ix ix_str (pv 1) (pe_op op_modN (pv 0) (pe_callB call_len_str (by rfl) T.z_len PySem.boot_len (pa_cons (pv 1) pa_nil))) (fun _ _ => rfl))))))
theorem sc_L_changed : FnScope N_L_changed ["text", "cell", "at"] (defScope s_L_changed) := ⟨rfl, rfl, rfl, by decide +kernel, rfl, by decide +kernel, by decide +kernel⟩
theorem ok_L_changed {f : Addr} {fd : FuncData} (T : Txt K mg g) (F : Fun K "_law_changed" "_law_changed" s_L_changed f fd) (c_L_sign : Cal P w K mg base 1 "_law_sign" ["cell"] (sp_L_sign K g)) : FnOk P w K mg base (L2.CX P w) 2 f fd ["text", "cell", "at"] (sp_L_changed K g) := by
  refine F.okX sc_L_changed (fun vs H Q E h => len_L_changed K g vs H Q E h) (fun cdv A outer s H vs Q E hr h => ⟨t_L_changed K g E, ?_, pure_L_changed  vs H Q E h⟩)
  have hu := hu_of hr
  have tkE : Takes (cxOf (L2.CX P w) P w K mg base N_L_changed "_law_changed" (defScope s_L_changed) f cdv A outer s H E) (wE E) := takes_of rfl rfl rfl rfl
  exact (pss_cons (ps_set (i := 3) sc_L_changed.nd rfl (Or.inl rfl) (pe_op op_modN (pv 2) (pe_op op_add (pe_callB call_len_str (by rfl) T.z_len PySem.boot_len (pa_cons (pv 0) pa_nil)) pe_int)))
    (pss_cons (ps_set (i := 4) sc_L_changed.nd rfl (Or.inl rfl) (pe_op op_modN (pv 1) pe_int))
    (pss_cons (ps_if (pt_cmpR op_eq (pv 4) pe_int (nomark _)) (pss_one (ps_ret (pe_op op_add_str (pe_op op_add_str (pe_slice sl_str (pv 0) po_none (po_some (pv 3))) (pe_cal c_L_sign (hr.mono (by decide)) rfl (fun σ => passE0 σ) (pa_cons (pe_op op_fdivW (pv 1) pe_int) pa_nil))) (pe_slice sl_str (pv 0) (po_some (pv 3)) po_none)))) pss_nil)
    (pss_cons (ps_if (pt_cmpR op_eq (pv 4) pe_int (nomark _)) (pss_one (ps_ret (pe_op op_add_str (pe_op op_add_str (pe_slice sl_str (pv 0) po_none (po_some (pv 3))) (pe_cal c_L_sign (hr.mono (by decide)) rfl (fun σ => passE0 σ) (pa_cons (pe_op op_fdivW (pv 1) pe_int) pa_nil))) (pe_slice sl_str (pv 0) (po_some (pe_op op_add (pv 3) pe_int)) po_none)))) pss_nil)
    (pss_one (ps_ret (pe_op op_add_str (pe_slice sl_str (pv 0) po_none (po_some (pv 3))) (pe_slice sl_str (pv 0) (po_some (pe_op op_add (pv 3) pe_int)) po_none))))))))
theorem sc_L_seat : FnScope N_L_seat ["word", "size", "used"] (defScope s_L_seat) := ⟨rfl, rfl, rfl, by decide +kernel, rfl, by decide +kernel, by decide +kernel⟩
theorem ok_L_seat {f : Addr} {fd : FuncData} (T : Txt K mg g) (F : Fun K "_law_seat" "_law_seat" s_L_seat f fd)  : FnOk P w K mg base (L2.CX P w) 1 f fd ["word", "size", "used"] (sp_L_seat K g) := by
  refine F.okX sc_L_seat (fun vs H Q E h => len_L_seat K g vs H Q E h) (fun cdv A outer s H vs Q E hr h => ⟨t_L_seat K g E, ?_, pure_L_seat  vs H Q E h⟩)
  have hu := hu_of hr
  have tkE : Takes (cxOf (L2.CX P w) P w K mg base N_L_seat "_law_seat" (defScope s_L_seat) f cdv A outer s H E) (wE E) := takes_of rfl rfl rfl rfl
  exact (pss_cons (ps_if (PW.pt (pw_or (pt_cmpR op_eq (pv 0) pe_str (nomark _)) (pw_or (pt_cmpR op_gt (pe_callB call_len_str (by rfl) T.z_len PySem.boot_len (pa_cons (pv 0) pa_nil)) pe_int (nomark _)) (pw_or1 (PW.pt (pw_and (pt_cmpR op_eq (pe_ix ix_str (pv 0) pe_int (fun _ _ => rfl)) pe_str (nomark _)) (pw_and1 (pt_cmpR op_gt (pe_callB call_len_str (by rfl) T.z_len PySem.boot_len (pa_cons (pv 0) pa_nil)) pe_int (nomark _))))))))) (pss_one (ps_ret (pe_un un_neg pe_int))) pss_nil)
    (pss_cons (ps_if (PW.pt (pw_or (pt_cmpR op_ge (pe_callTy call_int_str (by rfl) T.z_int (by decide +kernel) (pa_cons (pv 0) pa_nil)) (pv 1) (nomark _)) (pw_or1 (pt_cmpR op_in_seq (pe_callTy call_int_str (by rfl) T.z_int (by decide +kernel) (pa_cons (pv 0) pa_nil)) (pv 2) (by rfl))))) (pss_one (ps_ret (pe_un un_neg pe_int))) pss_nil)
    (pss_one (ps_ret (pe_callTy call_int_str (by rfl) T.z_int (by decide +kernel) (pa_cons (pv 0) pa_nil))))))
theorem sc_L_due_k08 : FnScope N_L_due_k08 ["text", "size"] (defScope s_L_due_k08) := ⟨rfl, rfl, rfl, by decide +kernel, rfl, by decide +kernel, by decide +kernel⟩
theorem ok_L_due_k08 {f : Addr} {fd : FuncData} (T : Txt K mg g) (F : Fun K "_law_due" "_law_due" s_L_due_k08 f fd) (c_L_seat : Cal P w K mg base 1 "_law_seat" ["word", "size", "used"] (sp_L_seat K g)) : FnOk P w K mg base (L2.CX P w) 2 f fd ["text", "size"] (sp_L_due_k08 K g) := by
  refine F.okX sc_L_due_k08 (fun vs H Q E h => len_L_due_k08 K g vs H Q E h) (fun cdv A outer s H vs Q E hr h => ⟨t_L_due_k08 K g E, ?_, pure_L_due_k08  vs H Q E h⟩)
  have hu := hu_of hr
  have tkE : Takes (cxOf (L2.CX P w) P w K mg base N_L_due_k08 "_law_due" (defScope s_L_due_k08) f cdv A outer s H E) (wE E) := takes_of rfl rfl rfl rfl
  exact (pss_cons (ps_if (PW.pt (pw_or (pt_cmpR op_eq (pv 0) pe_str (nomark _)) (pw_or1 (pt_cmpR op_eq (pv 0) pe_str (nomark _))))) (pss_one (ps_ret (pe_ifExp (pt_cmpR op_eq (pv 0) pe_str (nomark _)) (pe_tupRg rfl (by rfl) T.z_tuple (prg_1 (by rfl) T.z_range (pv 1))) pe_non))) pss_nil)
    (pss_cons (ps_set (i := 2) sc_L_due_k08.nd rfl (Or.inl rfl) (pe_listRg rfl (by rfl) T.z_list (prg_1 (by rfl) T.z_range (pv 1))))
    (pss_cons (ps_set (i := 3) sc_L_due_k08.nd rfl (Or.inl rfl) (pe_lst pa_nil))
    (pss_cons (ps_set (i := 4) sc_L_due_k08.nd rfl (Or.inl rfl) (pe_lst pa_nil))
    (pss_cons (ps_set (i := 5) sc_L_due_k08.nd rfl (Or.inl rfl) pe_str)
    (pss_cons (ps_set (i := 6) sc_L_due_k08.nd rfl (Or.inl rfl) pe_bl)
    (pss_cons (ps_for (passes_of rfl) rfl (pi_str (pv 0)) (pg_name (i := 7) sc_L_due_k08.nd rfl (Or.inl rfl)) (pss_one (ps_if (PW.pt (pw_and (pt_val (pv 6)) (pw_and1 (pt_cmpR op_in_sign (pv 7) pe_str (by rfl))))) (pss_cons (ps_set (i := 8) sc_L_due_k08.nd rfl (Or.inl rfl) (pe_cal c_L_seat (hr.mono (by decide)) rfl (fun σ => passE0 σ) (pa_cons (pv 5) (pa_cons (pv 1) (pa_cons (pv 3) pa_nil)))))
    (pss_cons (ps_if (pt_cmpR op_lt (pv 8) pe_int (nomark _)) (pss_one (ps_ret pe_non)) pss_nil)
    (pss_cons (ps_expr (pe_bm PySem.F.plainAttrs_list PySem.F.slot_list_append PySem.F.type_list_append mt_append (pv 3) (pa_cons (pv 8) pa_nil)))
    (pss_cons (ps_expr (pe_bm PySem.F.plainAttrs_list PySem.F.slot_list_append PySem.F.type_list_append mt_append (pv 4) (pa_cons (pv 8) pa_nil)))
    (pss_cons (ps_set (i := 5) sc_L_due_k08.nd rfl (Or.inl rfl) pe_str)
    (pss_one (ps_if (pt_cmpR op_eq (pv 7) pe_str (nomark _)) (pss_cons (ps_set (i := 6) sc_L_due_k08.nd rfl (Or.inl rfl) pe_bl)
    (pss_cons (ps_if (pt_cmpR op_lt (pe_callB call_len_seq (by rfl) T.z_len PySem.boot_len (pa_cons (pv 4) pa_nil)) pe_int (nomark _)) (pss_one (ps_ret pe_non)) pss_nil)
    (pss_one (ps_for (passes_of rfl) rfl (pi_range1 (by rfl) T.z_range (pa_cons (pe_callB call_len_seq (by rfl) T.z_len PySem.boot_len (pa_cons (pv 4) pa_nil)) pa_nil)) (pg_name (i := 9) sc_L_due_k08.nd rfl (Or.inl rfl)) (pss_one (ps_asg (pe_ix ix_list (pv 4) (pv 9) (fun _ _ => rfl)) (pg_sub (pv 2) (pe_ix ix_list (pv 4) (pe_op op_sub (pv 9) pe_int) (fun _ _ => rfl)) set_list))))))) pss_nil))))))) (pss_one (ps_if (PW.pt (pw_and (pt_val (pv 6)) (pw_and1 (pt_cmpR op_in_sign (pv 7) pe_str (by rfl))))) (pss_one (ps_set (i := 5) sc_L_due_k08.nd rfl (Or.inl rfl) (pe_op op_add_str (pv 5) (pv 7)))) (pss_one (ps_if (PW.pt (pw_and (pt_cmpR op_eq (pv 7) pe_str (nomark _)) (pw_and1 (pt_not (pt_val (pv 6)))))) (pss_cons (ps_set (i := 6) sc_L_due_k08.nd rfl (Or.inl rfl) pe_bl)
    (pss_one (ps_set (i := 4) sc_L_due_k08.nd rfl (Or.inl rfl) (pe_lst pa_nil)))) (pss_one (ps_ret pe_non)))))))))
    (pss_one (ps_ret (pe_ifExp (pt_val (pv 6)) pe_non (pe_callTy call_tuple_of (by rfl) T.z_tuple (by decide +kernel) (pa_cons (pv 2) pa_nil))))))))))))
theorem sc_L_far : FnScope N_L_far ["cell", "size"] (defScope s_L_far) := ⟨rfl, rfl, rfl, by decide +kernel, rfl, by decide +kernel, by decide +kernel⟩
theorem ok_L_far {f : Addr} {fd : FuncData} (T : Txt K mg g) (F : Fun K "_law_far" "_law_far" s_L_far f fd)  : FnOk P w K mg base (L2.CX P w) 1 f fd ["cell", "size"] (sp_L_far K g) := by
  refine F.okX sc_L_far (fun vs H Q E h => len_L_far K g vs H Q E h) (fun cdv A outer s H vs Q E hr h => ⟨t_L_far K g E, ?_, pure_L_far  vs H Q E h⟩)
  have hu := hu_of hr
  have tkE : Takes (cxOf (L2.CX P w) P w K mg base N_L_far "_law_far" (defScope s_L_far) f cdv A outer s H E) (wE E) := takes_of rfl rfl rfl rfl
  exact (pss_cons (ps_set (i := 2) sc_L_far.nd rfl (Or.inl rfl) (pe_listRg rfl (by rfl) T.z_list (prg_1 (by rfl) T.z_range (pv 1))))
    (pss_cons (ps_set (i := 3) sc_L_far.nd rfl (Or.inl rfl) (pe_lst pa_nil))
    (pss_cons (ps_for (passes_of rfl) rfl (pi_range1 (by rfl) T.z_range (pa_cons (pv 1) pa_nil)) (pg_name (i := 4) sc_L_far.nd rfl (Or.inl rfl)) (pss_cons (ps_set (i := 0) sc_L_far.nd rfl (Or.inl rfl) (pe_op op_modN (pe_op op_add (pe_op op_mul (pv 0) pe_int) pe_int) pe_int))
    (pss_one (ps_expr (pe_bm PySem.F.plainAttrs_list PySem.F.slot_list_append PySem.F.type_list_append mt_append (pv 3) (pa_cons (pe_bm PySem.F.plainAttrs_list PySem.F.slot_list_pop PySem.F.type_list_pop mt_popAt (pv 2) (pa_cons (pe_op op_modN (pv 0) (pe_op op_sub (pv 1) (pv 4))) pa_nil)) pa_nil))))))
    (pss_one (ps_ret (pe_callTy call_tuple_of (by rfl) T.z_tuple (by decide +kernel) (pa_cons (pv 3) pa_nil)))))))
theorem sc_L_odd : FnScope N_L_odd ["cell"] (defScope s_L_odd) := ⟨rfl, rfl, rfl, by decide +kernel, rfl, by decide +kernel, by decide +kernel⟩
theorem ok_L_odd {f : Addr} {fd : FuncData} (T : Txt K mg g) (F : Fun K "_law_odd" "_law_odd" s_L_odd f fd)  : FnOk P w K mg base (L2.CX P w) 1 f fd ["cell"] (sp_L_odd K g) := by
  refine F.okX sc_L_odd (fun vs H Q E h => len_L_odd K g vs H Q E h) (fun cdv A outer s H vs Q E hr h => ⟨t_L_odd K g E, ?_, pure_L_odd  vs H Q E h⟩)
  have hu := hu_of hr
  have tkE : Takes (cxOf (L2.CX P w) P w K mg base N_L_odd "_law_odd" (defScope s_L_odd) f cdv A outer s H E) (wE E) := takes_of rfl rfl rfl rfl
  exact (pss_cons (ps_set (i := 1) sc_L_odd.nd rfl (Or.inl rfl) (pe_lst (pa_cons pe_str (pa_cons pe_str (pa_cons pe_str (pa_cons pe_str (pa_cons pe_str (pa_cons pe_str (pa_cons pe_str (pa_cons pe_str (pa_cons pe_str (pa_cons pe_str (pa_cons pe_str (pa_cons pe_str (pa_cons pe_str pa_nil)))))))))))))))
    (pss_cons (ps_set (i := 1) sc_L_odd.nd rfl (Or.inl rfl) (pe_op op_cat (pv 1) (pe_lst (pa_cons pe_str (pa_cons pe_str (pa_cons pe_str (pa_cons pe_str (pa_cons pe_str (pa_cons pe_str (pa_cons pe_str (pa_cons pe_str (pa_cons pe_str pa_nil))))))))))))
    (pss_cons (ps_set (i := 1) sc_L_odd.nd rfl (Or.inl rfl) (pe_op op_cat (pv 1) (pe_lst (pa_cons pe_str (pa_cons pe_str (pa_cons pe_str (pa_cons pe_str (pa_cons pe_str (pa_cons pe_str (pa_cons pe_str (pa_cons pe_str (pa_cons pe_str pa_nil))))))))))))
    (pss_one (ps_ret (pe_ix ix_list (pv 1) (pe_op op_modN (pv 0) (pe_callB call_len_seq (by rfl) T.z_len PySem.boot_len (pa_cons (pv 1) pa_nil))) (fun _ _ => rfl)))))))
theorem sc_ask_size : FnScope N_ask_size ["size"] (defScope s_ask_size) := ⟨rfl, rfl, rfl, by decide +kernel, rfl, by decide +kernel, by decide +kernel⟩
theorem ok_ask_size {f : Addr} {fd : FuncData} (T : Txt K mg g) (F : Fun K "ask_size" "ask_size" s_ask_size f fd)  : FnOk P w K mg base (L2.CX P w) 1 f fd ["size"] (sp_ask_size K g) := by
  refine F.okX sc_ask_size (fun vs H Q E h => len_ask_size K g vs H Q E h) (fun cdv A outer s H vs Q E hr h => ⟨t_ask_size K g E, ?_, pure_ask_size  vs H Q E h⟩)
  have hu := hu_of hr
  have tkE : Takes (cxOf (L2.CX P w) P w K mg base N_ask_size "ask_size" (defScope s_ask_size) f cdv A outer s H E) (wE E) := takes_of rfl rfl rfl rfl
  exact (pss_one (ps_if (PW.pt (pw_or (pt_cmpR op_lt (pv 0) pe_int (nomark _)) (pw_or1 (pt_cmpR op_gt (pv 0) (pe_globI T.c_MOST) (nomark _))))) (pss_one (ps_raise rfl tkE (pmk_own PySem.F.excBase_ValueError T.x_NoSize.ex T.x_NoSize.gC T.x_NoSize.kC (raises_own T.x_NoSize.bC T.x_NoSize.tC) rfl))) pss_nil))
theorem sc_rest : FnScope N_rest ["size"] (defScope s_rest) := ⟨rfl, rfl, rfl, by decide +kernel, rfl, by decide +kernel, by decide +kernel⟩
theorem ok_rest {f : Addr} {fd : FuncData} (T : Txt K mg g) (F : Fun K "rest" "rest" s_rest f fd) (c_ask_size : Cal P w K mg base 1 "ask_size" ["size"] (sp_ask_size K g)) : FnOk P w K mg base (L2.CX P w) 2 f fd ["size"] (sp_rest K g) := by
  refine F.okX sc_rest (fun vs H Q E h => len_rest K g vs H Q E h) (fun cdv A outer s H vs Q E hr h => ⟨t_rest K g E, ?_, pure_rest  vs H Q E h⟩)
  have hu := hu_of hr
  have tkE : Takes (cxOf (L2.CX P w) P w K mg base N_rest "rest" (defScope s_rest) f cdv A outer s H E) (wE E) := takes_of rfl rfl rfl rfl
  exact (pss_cons (ps_expr (pe_cal c_ask_size (hr.mono (by decide)) rfl (fun σ => passAt tkE σ) (pa_cons (pv 0) pa_nil)))
    (pss_one (ps_ret (pe_tupRg rfl (by rfl) T.z_tuple (prg_1 (by rfl) T.z_range (pv 0))))))
theorem sc_seat_of : FnScope N_seat_of ["word", "size"] (defScope s_seat_of) := ⟨rfl, rfl, rfl, by decide +kernel, rfl, by decide +kernel, by decide +kernel⟩
theorem ok_seat_of {f : Addr} {fd : FuncData} (T : Txt K mg g) (F : Fun K "seat_of" "seat_of" s_seat_of f fd)  : FnOk P w K mg base (L2.CX P w) 1 f fd ["word", "size"] (sp_seat_of K g) := by
  refine F.okX sc_seat_of (fun vs H Q E h => len_seat_of K g vs H Q E h) (fun cdv A outer s H vs Q E hr h => ⟨t_seat_of K g E, ?_, pure_seat_of  vs H Q E h⟩)
  have hu := hu_of hr
  have tkE : Takes (cxOf (L2.CX P w) P w K mg base N_seat_of "seat_of" (defScope s_seat_of) f cdv A outer s H E) (wE E) := takes_of rfl rfl rfl rfl
  exact (pss_cons (ps_if (PW.pt (pw_or (pt_cmpR op_eq (pv 0) pe_str (nomark _)) (pw_or (pt_cmpR op_gt (pe_callB call_len_str (by rfl) T.z_len PySem.boot_len (pa_cons (pv 0) pa_nil)) pe_int (nomark _)) (pw_or1 (PW.pt (pw_and (pt_cmpR op_eq (pe_ix ix_str (pv 0) pe_int (fun _ _ => rfl)) pe_str (nomark _)) (pw_and1 (pt_cmpR op_gt (pe_callB call_len_str (by rfl) T.z_len PySem.boot_len (pa_cons (pv 0) pa_nil)) pe_int (nomark _))))))))) (pss_one (ps_raise rfl tkE (pmk_own PySem.F.excBase_ValueError T.x_NotRead.ex T.x_NotRead.gC T.x_NotRead.kC (raises_own T.x_NotRead.bC T.x_NotRead.tC) rfl))) pss_nil)
    (pss_cons (ps_for (passes_of rfl) rfl (pi_str (pv 0)) (pg_name (i := 2) sc_seat_of.nd rfl (Or.inl rfl)) (pss_one (ps_if (pt_cmpR op_notIn_sign (pv 2) (pe_globS T.c_FIGURES) (by rfl)) (pss_one (ps_raise rfl tkE (pmk_own PySem.F.excBase_ValueError T.x_NotRead.ex T.x_NotRead.gC T.x_NotRead.kC (raises_own T.x_NotRead.bC T.x_NotRead.tC) rfl))) pss_nil)))
    (pss_cons (ps_set (i := 3) sc_seat_of.nd rfl (Or.inl rfl) (pe_callTy call_int_str (by rfl) T.z_int (by decide +kernel) (pa_cons (pv 0) pa_nil)))
    (pss_cons (ps_if (pt_cmpR op_ge (pv 3) (pv 1) (nomark _)) (pss_one (ps_raise rfl tkE (pmk_own PySem.F.excBase_ValueError T.x_NotRead.ex T.x_NotRead.gC T.x_NotRead.kC (raises_own T.x_NotRead.bC T.x_NotRead.tC) rfl))) pss_nil)
    (pss_one (ps_ret (pv 3)))))))
theorem sc_read : FnScope N_read ["text", "size"] (defScope s_read) := ⟨rfl, rfl, rfl, by decide +kernel, rfl, by decide +kernel, by decide +kernel⟩
theorem ok_read {f : Addr} {fd : FuncData} (T : Txt K mg g) (F : Fun K "read" "read" s_read f fd) (c_ask_size : Cal P w K mg base 1 "ask_size" ["size"] (sp_ask_size K g)) (c_rest : Cal P w K mg base 2 "rest" ["size"] (sp_rest K g)) (c_seat_of : Cal P w K mg base 1 "seat_of" ["word", "size"] (sp_seat_of K g)) : FnOk P w K mg base (L2.CX P w) 3 f fd ["text", "size"] (sp_read K g) := by
  refine F.okX sc_read (fun vs H Q E h => len_read K g vs H Q E h) (fun cdv A outer s H vs Q E hr h => ⟨t_read K g E, ?_, pure_read  vs H Q E h⟩)
  have hu := hu_of hr
  have tkE : Takes (cxOf (L2.CX P w) P w K mg base N_read "read" (defScope s_read) f cdv A outer s H E) (wE E) := takes_of rfl rfl rfl rfl
  exact (pss_cons (ps_expr (pe_cal c_ask_size (hr.mono (by decide)) rfl (fun σ => passAt tkE σ) (pa_cons (pv 1) pa_nil)))
    (pss_cons (ps_set (i := 2) sc_read.nd rfl (Or.inl rfl) (pe_callTy call_list_of (by rfl) T.z_list (by decide +kernel) (pa_cons (pe_cal c_rest (hr.mono (by decide)) rfl (fun σ => passAt tkE σ) (pa_cons (pv 1) pa_nil)) pa_nil)))
    (pss_cons (ps_if (pt_cmpR op_eq (pv 0) pe_str (nomark _)) (pss_one (ps_ret (pe_callTy call_tuple_of (by rfl) T.z_tuple (by decide +kernel) (pa_cons (pv 2) pa_nil)))) pss_nil)
    (pss_cons (ps_if (PW.pt (pw_or (pt_cmpR op_lt (pe_callB call_len_str (by rfl) T.z_len PySem.boot_len (pa_cons (pv 0) pa_nil)) pe_int (nomark _)) (pw_or (pt_cmpR op_ne (pe_ix ix_str (pv 0) pe_int (fun _ _ => rfl)) pe_str (nomark _)) (pw_or1 (pt_cmpR op_ne (pe_ix ix_str (pv 0) (pe_un un_neg pe_int) (fun _ _ => rfl)) pe_str (nomark _)))))) (pss_one (ps_raise rfl tkE (pmk_own PySem.F.excBase_ValueError T.x_NotRead.ex T.x_NotRead.gC T.x_NotRead.kC (raises_own T.x_NotRead.bC T.x_NotRead.tC) rfl))) pss_nil)
    (pss_cons (ps_set (i := 3) sc_read.nd rfl (Or.inl rfl) pe_dnewK)
    (pss_cons (ps_for (passes_of rfl) rfl (pi_list (pe_split (pe_slice sl_str (pv 0) (po_some pe_int) (po_some (pe_un un_neg pe_int))) pe_str)) (pg_name (i := 4) sc_read.nd rfl (Or.inl rfl)) (pss_cons (ps_setLcX (i := 5) (own := [("word", 7)]) (g := gName 7) rfl sc_read.nd rfl rfl tkE rfl rfl (sw_true rfl rfl rfl (by decide +kernel)) (pi_list (pe_split (pv 4) pe_str)) (blkOk_by (own := [("word", 7)]) (N := N_read) (sc := defScope s_read) (by decide +kernel)) (fun _ _ _ _ _ => pg_name (i := 7) sc_read.nd rfl (Or.inl rfl)) (fun _ _ _ _ _ => pts_nil) (fun _ _ _ _ _ _ hxx => (pe_cal c_seat_of (hr.mono (by decide)) rfl hxx (pa_cons (pv 7) (pa_cons (pv 1) pa_nil)))))
    (pss_cons (ps_if (pt_cmpR op_lt (pe_callB call_len_seq (by rfl) T.z_len PySem.boot_len (pa_cons (pv 5) pa_nil)) pe_int (nomark _)) (pss_one (ps_raise rfl tkE (pmk_own PySem.F.excBase_ValueError T.x_NotRead.ex T.x_NotRead.gC T.x_NotRead.kC (raises_own T.x_NotRead.bC T.x_NotRead.tC) rfl))) pss_nil)
    (pss_one (ps_for (passes_of rfl) rfl (pi_range1 (by rfl) T.z_range (pa_cons (pe_callB call_len_seq (by rfl) T.z_len PySem.boot_len (pa_cons (pv 5) pa_nil)) pa_nil)) (pg_name (i := 6) sc_read.nd rfl (Or.inl rfl)) (pss_cons (ps_if (pt_cmp (pc_din hu (pe_ix ix_list (pv 5) (pv 6) (fun _ _ => rfl)) (pv 3))) (pss_one (ps_raise rfl tkE (pmk_own PySem.F.excBase_ValueError T.x_NotRead.ex T.x_NotRead.gC T.x_NotRead.kC (raises_own T.x_NotRead.bC T.x_NotRead.tC) rfl))) pss_nil)
    (pss_cons (ps_dput hu (pv 3) (pe_ix ix_list (pv 5) (pv 6) (fun _ _ => rfl)) pe_bl rfl)
    (pss_one (ps_asg (pe_ix ix_list (pv 5) (pe_op op_modN (pe_op op_add (pv 6) pe_int) (pe_callB call_len_seq (by rfl) T.z_len PySem.boot_len (pa_cons (pv 5) pa_nil))) (fun _ _ => rfl)) (pg_sub (pv 2) (pe_ix ix_list (pv 5) (pv 6) (fun _ _ => rfl)) set_list))))))))))
    (pss_one (ps_ret (pe_callTy call_tuple_of (by rfl) T.z_tuple (by decide +kernel) (pa_cons (pv 2) pa_nil))))))))))
theorem sc_L_refused_k08 : FnScope N_L_refused_k08 ["text", "size"] (defScope s_L_refused_k08) := ⟨rfl, rfl, rfl, by decide +kernel, rfl, by decide +kernel, by decide +kernel⟩
theorem ok_L_refused_k08 {f : Addr} {fd : FuncData} (T : Txt K mg g) (F : Fun K "_law_refused" "_law_refused" s_L_refused_k08 f fd) (c_read : Cal P w K mg base 3 "read" ["text", "size"] (sp_read K g)) : FnOk P w K mg base (L2.CX P w) 4 f fd ["text", "size"] (sp_L_refused_k08 K g) := by
  refine F.okX sc_L_refused_k08 (fun vs H Q E h => len_L_refused_k08 K g vs H Q E h) (fun cdv A outer s H vs Q E hr h => ⟨t_L_refused_k08 K g E, ?_, pure_L_refused_k08 T.m_NotRead_RoomError T.m_NoSize_RoomError T.e_NotRead T.e_NoSize T.k_NotRead_NotRead T.k_NotRead_NoSize T.k_NotRead_ValueError T.k_NotRead_Unreached T.k_NoSize_NotRead T.k_NoSize_NoSize T.k_NoSize_ValueError T.k_NoSize_Unreached vs H Q E h⟩)
  have hu := hu_of hr
  have tkE : Takes (cxOf (L2.CX P w) P w K mg base N_L_refused_k08 "_law_refused" (defScope s_L_refused_k08) f cdv A outer s H E) (wE E) := takes_of rfl rfl rfl rfl
  exact (pss_cons (ps_set (i := 2) sc_L_refused_k08.nd rfl (Or.inl rfl) pe_non)
    (pss_cons (ps_try_as (i := 3) (tb := fun W => (tDrop (tCallS (sp_read K g) (WE W) (tCons (tVar 0) (tCons (tVar 1) tNil))))) (ts := fun a cls d => (tAsg (tTup (tCons (tCB (rIsE2 K cls d a) (tCons (tVar 3) (tCons (tC (.ref g.NotRead)) tNil))) (tCons (tCB (rIsE2 K cls d a) (tCons (tVar 3) (tCons (tC (.ref g.NoSize)) tNil))) (tCons (tCB (rIsE2 K cls d a) (tCons (tVar 3) (tCons (tC (.ty "ValueError")) tNil))) (tCons (tCB (rIsE2 K cls d a) (tCons (tVar 3) (tCons (tC (.ref g.Unreached)) tNil))) tNil))))) (gName 2))) (Wout := wE E) rfl rfl sc_L_refused_k08.nd rfl rfl ⟨rfl, by decide, .inl T.g_RoomError⟩ tkE (fun W pn xe tk po => (pss_one (ps_expr (pe_cal c_read (hr.mono (by decide)) rfl (fun σ => passAt tk σ) (pa_cons (pv 0) (pa_cons (pv 1) pa_nil)))))) (fun a oe cls d pn hz hf => (pss_one (ps_set (i := 2) sc_L_refused_k08.nd rfl (Or.inl rfl) (pe_tup (pa_cons (pe_callB (call_isE2 hz hf) (by rfl) T.z_isinstance (by decide +kernel) (pa_cons (pv 3) (pa_cons (pe_glob rfl T.g_NotRead rfl) pa_nil))) (pa_cons (pe_callB (call_isE2 hz hf) (by rfl) T.z_isinstance (by decide +kernel) (pa_cons (pv 3) (pa_cons (pe_glob rfl T.g_NoSize rfl) pa_nil))) (pa_cons (pe_callB (call_isE2 hz hf) (by rfl) T.z_isinstance (by decide +kernel) (pa_cons (pv 3) (pa_cons (pe_bltn (by rfl) T.z_ValueError (by decide +kernel) rfl) pa_nil))) (pa_cons (pe_callB (call_isE2 hz hf) (by rfl) T.z_isinstance (by decide +kernel) (pa_cons (pv 3) (pa_cons (pe_glob rfl T.g_Unreached rfl) pa_nil))) pa_nil)))))))))
    (pss_one (ps_ret (pv 2)))))
theorem sc_L_rings_k08 : FnScope N_L_rings_k08 ["a"] (defScope s_L_rings_k08) := ⟨rfl, rfl, rfl, by decide +kernel, rfl, by decide +kernel, by decide +kernel⟩
theorem ok_L_rings_k08 {f : Addr} {fd : FuncData} (T : Txt K mg g) (F : Fun K "_law_rings" "_law_rings" s_L_rings_k08 f fd)  : FnOk P w K mg base (L2.CX P w) 1 f fd ["a"] (sp_L_rings_k08 K g) := by
  refine F.okX sc_L_rings_k08 (fun vs H Q E h => len_L_rings_k08 K g vs H Q E h) (fun cdv A outer s H vs Q E hr h => ⟨t_L_rings_k08 K g E, ?_, pure_L_rings_k08  vs H Q E h⟩)
  have hu := hu_of hr
  have tkE : Takes (cxOf (L2.CX P w) P w K mg base N_L_rings_k08 "_law_rings" (defScope s_L_rings_k08) f cdv A outer s H E) (wE E) := takes_of rfl rfl rfl rfl
  exact (pss_cons (ps_set (i := 1) sc_L_rings_k08.nd rfl (Or.inl rfl) (pe_lst pa_nil))
    (pss_cons (ps_for (passes_of rfl) rfl (pi_range1 (by rfl) T.z_range (pa_cons (pe_callB call_len_seq (by rfl) T.z_len PySem.boot_len (pa_cons (pv 0) pa_nil)) pa_nil)) (pg_name (i := 2) sc_L_rings_k08.nd rfl (Or.inl rfl)) (pss_cons (ps_set (i := 3) sc_L_rings_k08.nd rfl (Or.inl rfl) (pe_lst (pa_cons (pv 2) pa_nil)))
    (pss_cons (ps_while (passes_of rfl) (pt_cmpR op_ne (pe_ix ix_tup (pv 0) (pe_ix ix_list (pv 3) (pe_un un_neg pe_int) (fun _ _ => rfl)) (fun _ _ => rfl)) (pv 2) (nomark _)) (pss_one (ps_expr (pe_bm PySem.F.plainAttrs_list PySem.F.slot_list_append PySem.F.type_list_append mt_append (pv 3) (pa_cons (pe_ix ix_tup (pv 0) (pe_ix ix_list (pv 3) (pe_un un_neg pe_int) (fun _ _ => rfl)) (fun _ _ => rfl)) pa_nil)))))
    (pss_one (ps_if (PW.pt (pw_and (pt_cmpR op_gt (pe_callB call_len_seq (by rfl) T.z_len PySem.boot_len (pa_cons (pv 3) pa_nil)) pe_int (nomark _)) (pw_and1 (pt_cmpR op_eq (pe_callB (cr_min rfl) (by rfl) T.z_min (by decide +kernel) (pa_cons (pv 3) pa_nil)) (pv 2) (nomark _))))) (pss_one (ps_expr (pe_bm PySem.F.plainAttrs_list PySem.F.slot_list_append PySem.F.type_list_append mt_append (pv 1) (pa_cons (pv 3) pa_nil)))) pss_nil)))))
    (pss_one (ps_ret (pv 1)))))
theorem sc_L_whole : FnScope N_L_whole ["found"] (defScope s_L_whole) := ⟨rfl, rfl, rfl, by decide +kernel, rfl, by decide +kernel, by decide +kernel⟩
theorem ok_L_whole {f : Addr} {fd : FuncData} (T : Txt K mg g) (F : Fun K "_law_whole" "_law_whole" s_L_whole f fd)  : FnOk P w K mg base (L2.CX P w) 1 f fd ["found"] (sp_L_whole K g) := by
  refine F.okX sc_L_whole (fun vs H Q E h => len_L_whole K g vs H Q E h) (fun cdv A outer s H vs Q E hr h => ⟨t_L_whole K g E, ?_, pure_L_whole  vs H Q E h⟩)
  have hu := hu_of hr
  have tkE : Takes (cxOf (L2.CX P w) P w K mg base N_L_whole "_law_whole" (defScope s_L_whole) f cdv A outer s H E) (wE E) := takes_of rfl rfl rfl rfl
  exact (pss_one (ps_ret (pe_and (pe_callB call_isi (by rfl) T.z_isinstance (by decide +kernel) (pa_cons (pv 0) (pa_cons (pe_bltn (by rfl) T.z_int (by decide +kernel) rfl) pa_nil))) (pe_one (pe_not (pe_callB call_isi (by rfl) T.z_isinstance (by decide +kernel) (pa_cons (pv 0) (pa_cons (pe_bltn (by rfl) T.z_bool (by decide +kernel) rfl) pa_nil))))))))
theorem sc_L_same : FnScope N_L_same ["found", "due"] (defScope s_L_same) := ⟨rfl, rfl, rfl, by decide +kernel, rfl, by decide +kernel, by decide +kernel⟩
theorem ok_L_same {f : Addr} {fd : FuncData} (T : Txt K mg g) (F : Fun K "_law_same" "_law_same" s_L_same f fd) (c_L_whole : Cal P w K mg base 1 "_law_whole" ["found"] (sp_L_whole K g)) : FnOk P w K mg base (L2.CX P w) 2 f fd ["found", "due"] (sp_L_same K g) := by
  refine F.okX sc_L_same (fun vs H Q E h => len_L_same K g vs H Q E h) (fun cdv A outer s H vs Q E hr h => ⟨t_L_same K g E, ?_, pure_L_same  vs H Q E h⟩)
  have hu := hu_of hr
  have tkE : Takes (cxOf (L2.CX P w) P w K mg base N_L_same "_law_same" (defScope s_L_same) f cdv A outer s H E) (wE E) := takes_of rfl rfl rfl rfl
  exact (pss_cons (ps_if (PW.pt (pw_or (pt_not (pt_val (pe_callB call_isi (by rfl) T.z_isinstance (by decide +kernel) (pa_cons (pv 0) (pa_cons (pe_bltn (by rfl) T.z_tuple (by decide +kernel) rfl) pa_nil))))) (pw_or1 (pt_cmpR op_ne (pe_callB call_len_seq (by rfl) T.z_len PySem.boot_len (pa_cons (pv 0) pa_nil)) (pe_callB call_len_seq (by rfl) T.z_len PySem.boot_len (pa_cons (pv 1) pa_nil)) (nomark _))))) (pss_one (ps_ret pe_bl)) pss_nil)
    (pss_cons (ps_for (passes_of rfl) rfl (pi_tup (pv 0)) (pg_name (i := 2) sc_L_same.nd rfl (Or.inl rfl)) (pss_one (ps_if (pt_not (pt_val (pe_cal c_L_whole (hr.mono (by decide)) rfl (fun σ => passE0 σ) (pa_cons (pv 2) pa_nil)))) (pss_one (ps_ret pe_bl)) pss_nil)))
    (pss_one (ps_ret (pe_cmpR (op_eqD hr.units) (pv 0) (pv 1) (nomark _))))))
theorem sc_L_text : FnScope N_L_text ["parts", "cell"] (defScope s_L_text) := ⟨rfl, rfl, rfl, by decide +kernel, rfl, by decide +kernel, by decide +kernel⟩
theorem ok_L_text {f : Addr} {fd : FuncData} (T : Txt K mg g) (F : Fun K "_law_text" "_law_text" s_L_text f fd)  : FnOk P w K mg base (L2.CX P w) 1 f fd ["parts", "cell"] (sp_L_text K g) := by
  refine F.okX sc_L_text (fun vs H Q E h => len_L_text K g vs H Q E h) (fun cdv A outer s H vs Q E hr h => ⟨t_L_text K g E, ?_, pure_L_text  vs H Q E h⟩)
  have hu := hu_of hr
  have tkE : Takes (cxOf (L2.CX P w) P w K mg base N_L_text "_law_text" (defScope s_L_text) f cdv A outer s H E) (wE E) := takes_of rfl rfl rfl rfl
  exact (pss_cons (ps_set (i := 2) sc_L_text.nd rfl (Or.inl rfl) pe_str)
    (pss_cons (ps_set (i := 3) sc_L_text.nd rfl (Or.inl rfl) (pe_callTy call_list_of (by rfl) T.z_list (by decide +kernel) (pa_cons (pv 0) pa_nil)))
    (pss_cons (ps_while (passes_of rfl) (pt_cmpR op_gt (pe_callB call_len_seq (by rfl) T.z_len PySem.boot_len (pa_cons (pv 3) pa_nil)) pe_int (nomark _)) (pss_cons (ps_set (i := 1) sc_L_text.nd rfl (Or.inl rfl) (pe_op op_modN (pe_op op_add (pe_op op_mul (pv 1) pe_int) pe_int) pe_int))
    (pss_cons (ps_set (i := 4) sc_L_text.nd rfl (Or.inl rfl) (pe_bm PySem.F.plainAttrs_list PySem.F.slot_list_pop PySem.F.type_list_pop mt_popAt (pv 3) (pa_cons (pe_op op_modN (pv 1) (pe_callB call_len_seq (by rfl) T.z_len PySem.boot_len (pa_cons (pv 3) pa_nil))) pa_nil)))
    (pss_cons (ps_set (i := 5) sc_L_text.nd rfl (Or.inl rfl) (pe_op op_modN (pe_op op_fdivW (pv 1) pe_int) (pe_callB call_len_seq (by rfl) T.z_len PySem.boot_len (pa_cons (pv 4) pa_nil))))
    (pss_one (ps_set (i := 2) sc_L_text.nd rfl (Or.inl rfl) (pe_op op_add_str (pe_op op_add_str (pe_op op_add_str (pv 2) pe_str) (pe_join pe_str (pe_lc (own := [("x", 6)]) (g := gName 6) rfl sc_L_text.nd (pi_list (pe_op op_cat (pe_slice sl_list (pv 4) (po_some (pv 5)) po_none) (pe_slice sl_list (pv 4) po_none (po_some (pv 5))))) (blkOk_by (own := [("x", 6)]) (N := N_L_text) (sc := defScope s_L_text) (by decide +kernel)) (fun _ _ _ _ _ => pg_name (i := 6) sc_L_text.nd rfl (Or.inl rfl)) (fun _ _ _ _ _ => pts_nil) (fun _ _ _ _ _ => (pe_callTy call_str_int (by rfl) T.z_str (by decide +kernel) (pa_cons (pv 6) pa_nil)))))) pe_str)))))))
    (pss_cons (ps_if (pt_cmpR op_eq (pv 2) pe_str (nomark _)) (pss_one (ps_ret pe_str)) pss_nil)
    (pss_one (ps_ret (pv 2)))))))
theorem sc_law_k08 : FnScope N_law_k08 ["script"] (defScope s_law_k08) := ⟨rfl, rfl, rfl, by decide +kernel, rfl, by decide +kernel, by decide +kernel⟩
theorem ok_law_k08 {f : Addr} {fd : FuncData} (T : Txt K mg g) (F : Fun K "law" "law" s_law_k08 f fd) (c_L_cell_at : Cal P w K mg base 1 "_law_cell_at" ["script", "k"] (sp_L_cell_at K g)) (c_L_changed : Cal P w K mg base 2 "_law_changed" ["text", "cell", "at"] (sp_L_changed K g)) (c_L_due_k08 : Cal P w K mg base 2 "_law_due" ["text", "size"] (sp_L_due_k08 K g)) (c_L_far : Cal P w K mg base 1 "_law_far" ["cell", "size"] (sp_L_far K g)) (c_L_odd : Cal P w K mg base 1 "_law_odd" ["cell"] (sp_L_odd K g)) (c_L_refused_k08 : Cal P w K mg base 4 "_law_refused" ["text", "size"] (sp_L_refused_k08 K g)) (c_L_rings_k08 : Cal P w K mg base 1 "_law_rings" ["a"] (sp_L_rings_k08 K g)) (c_L_same : Cal P w K mg base 2 "_law_same" ["found", "due"] (sp_L_same K g)) (c_L_text : Cal P w K mg base 1 "_law_text" ["parts", "cell"] (sp_L_text K g)) (c_read : Cal P w K mg base 3 "read" ["text", "size"] (sp_read K g)) : FnOk P w K mg base (L2.CX P w) 5 f fd ["script"] (sp_law K) := by
  refine F.okX sc_law_k08 (fun vs H Q E h => len_law K g vs H Q E h) (fun cdv A outer s H vs Q E hr h => ⟨t_law_k08 K g E, ?_, pure_law_k08  vs H Q E h⟩)
  have hu := hu_of hr
  have tkE : Takes (cxOf (L2.CX P w) P w K mg base N_law_k08 "law" (defScope s_law_k08) f cdv A outer s H E) (wE E) := takes_of rfl rfl rfl rfl
  exact (pss_cons (ps_set (i := 1) sc_law_k08.nd rfl (Or.inl rfl) (pe_op op_add pe_int (pe_op op_modN (pe_cal c_L_cell_at (hr.mono (by decide)) rfl (fun σ => passE0 σ) (pa_cons (pv 0) (pa_cons pe_int pa_nil))) pe_int)))
    (pss_cons (ps_set (i := 2) sc_law_k08.nd rfl (Or.inl rfl) (pe_cal c_L_text (hr.mono (by decide)) rfl (fun σ => passE0 σ) (pa_cons (pe_cal c_L_rings_k08 (hr.mono (by decide)) rfl (fun σ => passE0 σ) (pa_cons (pe_cal c_L_far (hr.mono (by decide)) rfl (fun σ => passE0 σ) (pa_cons (pe_cal c_L_cell_at (hr.mono (by decide)) rfl (fun σ => passE0 σ) (pa_cons (pv 0) (pa_cons pe_int pa_nil))) (pa_cons (pv 1) pa_nil))) pa_nil)) (pa_cons (pe_cal c_L_cell_at (hr.mono (by decide)) rfl (fun σ => passE0 σ) (pa_cons (pv 0) (pa_cons pe_int pa_nil))) pa_nil))))
    (pss_cons (ps_if (pt_cmpR op_eq (pe_op op_modN (pe_cal c_L_cell_at (hr.mono (by decide)) rfl (fun σ => passE0 σ) (pa_cons (pv 0) (pa_cons pe_int pa_nil))) pe_int) pe_int (nomark _)) (pss_one (ps_set (i := 2) sc_law_k08.nd rfl (Or.inl rfl) (pe_cal c_L_changed (hr.mono (by decide)) rfl (fun σ => passE0 σ) (pa_cons (pv 2) (pa_cons (pe_cal c_L_cell_at (hr.mono (by decide)) rfl (fun σ => passE0 σ) (pa_cons (pv 0) (pa_cons pe_int pa_nil))) (pa_cons (pe_cal c_L_cell_at (hr.mono (by decide)) rfl (fun σ => passE0 σ) (pa_cons (pv 0) (pa_cons pe_int pa_nil))) pa_nil)))))) pss_nil)
    (pss_cons (ps_if (pt_cmpR op_eq (pe_op op_modN (pe_op op_fdivW (pe_cal c_L_cell_at (hr.mono (by decide)) rfl (fun σ => passE0 σ) (pa_cons (pv 0) (pa_cons pe_int pa_nil))) pe_int) pe_int) pe_int (nomark _)) (pss_one (ps_set (i := 2) sc_law_k08.nd rfl (Or.inl rfl) (pe_cal c_L_odd (hr.mono (by decide)) rfl (fun σ => passE0 σ) (pa_cons (pe_cal c_L_cell_at (hr.mono (by decide)) rfl (fun σ => passE0 σ) (pa_cons (pv 0) (pa_cons pe_int pa_nil))) pa_nil)))) pss_nil)
    (pss_cons (ps_if (pt_cmpR op_eq (pe_op op_modN (pe_op op_fdivW (pe_cal c_L_cell_at (hr.mono (by decide)) rfl (fun σ => passE0 σ) (pa_cons (pv 0) (pa_cons pe_int pa_nil))) pe_int) pe_int) pe_int (nomark _)) (pss_one (ps_set (i := 1) sc_law_k08.nd rfl (Or.inl rfl) (pe_op op_add pe_int (pe_op op_modN (pe_op op_fdivW (pe_cal c_L_cell_at (hr.mono (by decide)) rfl (fun σ => passE0 σ) (pa_cons (pv 0) (pa_cons pe_int pa_nil))) pe_int) pe_int)))) pss_nil)
    (pss_cons (ps_set (i := 3) sc_law_k08.nd rfl (Or.inl rfl) (pe_cal c_L_due_k08 (hr.mono (by decide)) rfl (fun σ => passE0 σ) (pa_cons (pv 2) (pa_cons (pv 1) pa_nil))))
    (pss_cons (ps_if (pt_cmpR op_isN (pv 3) pe_non (nomark _)) (pss_cons (ps_if (pt_cmpR (op_neD hr.units) (pe_cal c_L_refused_k08 (hr.mono (by decide)) rfl (fun σ => passE0 σ) (pa_cons (pv 2) (pa_cons pe_int pa_nil))) (pe_tup (pa_cons pe_bl (pa_cons pe_bl (pa_cons pe_bl (pa_cons pe_bl pa_nil))))) (nomark _)) (pss_one (ps_ret pe_bl)) pss_nil)
    (pss_one (ps_ret (pe_cmpR (op_eqD hr.units) (pe_cal c_L_refused_k08 (hr.mono (by decide)) rfl (fun σ => passE0 σ) (pa_cons (pv 2) (pa_cons (pv 1) pa_nil))) (pe_tup (pa_cons pe_bl (pa_cons pe_bl (pa_cons pe_bl (pa_cons pe_bl pa_nil))))) (nomark _))))) pss_nil)
    (pss_one (ps_ret (pe_cal c_L_same (hr.mono (by decide)) rfl (fun σ => passE0 σ) (pa_cons (pe_cal c_read (hr.mono (by decide)) rfl (fun σ => passAt tkE σ) (pa_cons (pv 2) (pa_cons (pv 1) pa_nil))) (pa_cons (pv 3) pa_nil))))))))))))
end
theorem all_mk {l : PySem.W.OpenLaw} {w : World} {K : PySem.W.Frag} {h : Heap} {mg : Str → Option Value} {fa : Addr} {D_NoSize : Addr} {D_NotRead : Addr} {D_RoomError : Addr} {D_Unreached : Addr} (X : K.In h) (G : h.Ns mainGlobals mg) (hfa : mg "law" = some (.ref fa))
    {tk_FIGURES : Tok}
    {tk_MOST : Tok}
    {f_L_cell_at : Addr} {od_L_cell_at an_L_cell_at : Option Addr} {sl_L_cell_at : Array (Option Value)} {oc_L_cell_at kV_L_cell_at dc_L_cell_at pm_L_cell_at cd_L_cell_at ct_L_cell_at : Value}
    {f_L_sign : Addr} {od_L_sign an_L_sign : Option Addr} {sl_L_sign : Array (Option Value)} {oc_L_sign kV_L_sign dc_L_sign pm_L_sign cd_L_sign ct_L_sign : Value}
    {f_L_changed : Addr} {od_L_changed an_L_changed : Option Addr} {sl_L_changed : Array (Option Value)} {oc_L_changed kV_L_changed dc_L_changed pm_L_changed cd_L_changed ct_L_changed : Value}
    {f_L_seat : Addr} {od_L_seat an_L_seat : Option Addr} {sl_L_seat : Array (Option Value)} {oc_L_seat kV_L_seat dc_L_seat pm_L_seat cd_L_seat ct_L_seat : Value}
    {f_L_due_k08 : Addr} {od_L_due_k08 an_L_due_k08 : Option Addr} {sl_L_due_k08 : Array (Option Value)} {oc_L_due_k08 kV_L_due_k08 dc_L_due_k08 pm_L_due_k08 cd_L_due_k08 ct_L_due_k08 : Value}
    {f_L_far : Addr} {od_L_far an_L_far : Option Addr} {sl_L_far : Array (Option Value)} {oc_L_far kV_L_far dc_L_far pm_L_far cd_L_far ct_L_far : Value}
    {f_L_odd : Addr} {od_L_odd an_L_odd : Option Addr} {sl_L_odd : Array (Option Value)} {oc_L_odd kV_L_odd dc_L_odd pm_L_odd cd_L_odd ct_L_odd : Value}
    {f_ask_size : Addr} {od_ask_size an_ask_size : Option Addr} {sl_ask_size : Array (Option Value)} {oc_ask_size kV_ask_size dc_ask_size pm_ask_size cd_ask_size ct_ask_size : Value}
    {f_rest : Addr} {od_rest an_rest : Option Addr} {sl_rest : Array (Option Value)} {oc_rest kV_rest dc_rest pm_rest cd_rest ct_rest : Value}
    {f_seat_of : Addr} {od_seat_of an_seat_of : Option Addr} {sl_seat_of : Array (Option Value)} {oc_seat_of kV_seat_of dc_seat_of pm_seat_of cd_seat_of ct_seat_of : Value}
    {f_read : Addr} {od_read an_read : Option Addr} {sl_read : Array (Option Value)} {oc_read kV_read dc_read pm_read cd_read ct_read : Value}
    {f_L_refused_k08 : Addr} {od_L_refused_k08 an_L_refused_k08 : Option Addr} {sl_L_refused_k08 : Array (Option Value)} {oc_L_refused_k08 kV_L_refused_k08 dc_L_refused_k08 pm_L_refused_k08 cd_L_refused_k08 ct_L_refused_k08 : Value}
    {f_L_rings_k08 : Addr} {od_L_rings_k08 an_L_rings_k08 : Option Addr} {sl_L_rings_k08 : Array (Option Value)} {oc_L_rings_k08 kV_L_rings_k08 dc_L_rings_k08 pm_L_rings_k08 cd_L_rings_k08 ct_L_rings_k08 : Value}
    {f_L_whole : Addr} {od_L_whole an_L_whole : Option Addr} {sl_L_whole : Array (Option Value)} {oc_L_whole kV_L_whole dc_L_whole pm_L_whole cd_L_whole ct_L_whole : Value}
    {f_L_same : Addr} {od_L_same an_L_same : Option Addr} {sl_L_same : Array (Option Value)} {oc_L_same kV_L_same dc_L_same pm_L_same cd_L_same ct_L_same : Value}
    {f_L_text : Addr} {od_L_text an_L_text : Option Addr} {sl_L_text : Array (Option Value)} {oc_L_text kV_L_text dc_L_text pm_L_text cd_L_text ct_L_text : Value}
    {f_law_k08 : Addr} {od_law_k08 an_law_k08 : Option Addr} {sl_law_k08 : Array (Option Value)} {oc_law_k08 kV_law_k08 dc_law_k08 pm_law_k08 cd_law_k08 ct_law_k08 : Value}
    (z_ValueError : PySem.W.nsIn K mainGlobals "ValueError" = some none)
    (z_bool : PySem.W.nsIn K mainGlobals "bool" = some none)
    (z_int : PySem.W.nsIn K mainGlobals "int" = some none)
    (z_isinstance : PySem.W.nsIn K mainGlobals "isinstance" = some none)
    (z_len : PySem.W.nsIn K mainGlobals "len" = some none)
    (z_list : PySem.W.nsIn K mainGlobals "list" = some none)
    (z_min : PySem.W.nsIn K mainGlobals "min" = some none)
    (z_range : PySem.W.nsIn K mainGlobals "range" = some none)
    (z_str : PySem.W.nsIn K mainGlobals "str" = some none)
    (z_tuple : PySem.W.nsIn K mainGlobals "tuple" = some none)
    (c_FIGURES : PySem.W.nsIn K mainGlobals "FIGURES" = some (some (.str "0123456789" tk_FIGURES)))
    (c_MOST : PySem.W.nsIn K mainGlobals "MOST" = some (some (.int 16 tk_MOST)))
    (ga_NoSize : PySem.W.nsIn K mainGlobals "NoSize" = some (some (.ref D_NoSize)))
    (xe_NoSize : PySem.W.excIn K D_NoSize [.type "ValueError", .type "Exception", .type "BaseException", .type "object"] "ValueError.__new__" = true)
    (xk_NoSize : PySem.W.keepIn K (.ref D_NoSize) = true)
    (xb_NoSize : PySem.W.subIn K (.ref D_NoSize) (.type "BaseException") = some true)
    (xt_NoSize : PySem.W.typeIn K (.ref D_NoSize) = some (.type "type"))
    (ga_NotRead : PySem.W.nsIn K mainGlobals "NotRead" = some (some (.ref D_NotRead)))
    (xe_NotRead : PySem.W.excIn K D_NotRead [.type "ValueError", .type "Exception", .type "BaseException", .type "object"] "ValueError.__new__" = true)
    (xk_NotRead : PySem.W.keepIn K (.ref D_NotRead) = true)
    (xb_NotRead : PySem.W.subIn K (.ref D_NotRead) (.type "BaseException") = some true)
    (xt_NotRead : PySem.W.typeIn K (.ref D_NotRead) = some (.type "type"))
    (ga_RoomError : PySem.W.nsIn K mainGlobals "RoomError" = some (some (.ref D_RoomError)))
    (xe_RoomError : PySem.W.excIn K D_RoomError [.type "ValueError", .type "Exception", .type "BaseException", .type "object"] "ValueError.__new__" = true)
    (xk_RoomError : PySem.W.keepIn K (.ref D_RoomError) = true)
    (xb_RoomError : PySem.W.subIn K (.ref D_RoomError) (.type "BaseException") = some true)
    (xt_RoomError : PySem.W.typeIn K (.ref D_RoomError) = some (.type "type"))
    (ga_Unreached : PySem.W.nsIn K mainGlobals "Unreached" = some (some (.ref D_Unreached)))
    (xe_Unreached : PySem.W.excIn K D_Unreached [.type "ValueError", .type "Exception", .type "BaseException", .type "object"] "ValueError.__new__" = true)
    (xk_Unreached : PySem.W.keepIn K (.ref D_Unreached) = true)
    (xb_Unreached : PySem.W.subIn K (.ref D_Unreached) (.type "BaseException") = some true)
    (xt_Unreached : PySem.W.typeIn K (.ref D_Unreached) = some (.type "type"))
    (hdx_RoomError : PySem.W.hasDictIn K D_RoomError = true)
    (sb_NotRead_RoomError : PySem.W.subIn K (.ref D_NotRead) (.ref D_RoomError) = some true)
    (sb_NoSize_RoomError : PySem.W.subIn K (.ref D_NoSize) (.ref D_RoomError) = some true)
    (eg_NotRead : PySem.W.findIn K (.ref D_NotRead) "__getattribute__" = some (some (.builtin "BaseException.__getattribute__")))
    (ek_NotRead : PySem.W.findIn K (.ref D_NotRead) "__getattr__" = some none)
    (hdx_NotRead : PySem.W.hasDictIn K D_NotRead = true)
    (ea_NotRead : PySem.W.findIn K (.ref D_NotRead) "__class__" = some (some (.builtin "object.__class__")))
    (e_hn : PySem.W.specialIn K (.builtin "object.__class__") "__get__" = some (some (.builtin "getset_descriptor.__get__")))
    (e_ht : PySem.W.takesIn K (.builtin "object.__class__") = some true)
    (em_NotRead : PySem.W.mroIn K D_NotRead (.type "object") = some true)
    (eg_NoSize : PySem.W.findIn K (.ref D_NoSize) "__getattribute__" = some (some (.builtin "BaseException.__getattribute__")))
    (ek_NoSize : PySem.W.findIn K (.ref D_NoSize) "__getattr__" = some none)
    (hdx_NoSize : PySem.W.hasDictIn K D_NoSize = true)
    (ea_NoSize : PySem.W.findIn K (.ref D_NoSize) "__class__" = some (some (.builtin "object.__class__")))
    (em_NoSize : PySem.W.mroIn K D_NoSize (.type "object") = some true)
    (kf_NotRead_NotRead : PySem.W.kitOne K (.ref D_NotRead) (.ref D_NotRead) = some true)
    (kf_NotRead_NoSize : PySem.W.kitOne K (.ref D_NotRead) (.ref D_NoSize) = some false)
    (kf_NotRead_Unreached : PySem.W.kitOne K (.ref D_NotRead) (.ref D_Unreached) = some false)
    (kf_NoSize_NotRead : PySem.W.kitOne K (.ref D_NoSize) (.ref D_NotRead) = some false)
    (kf_NoSize_NoSize : PySem.W.kitOne K (.ref D_NoSize) (.ref D_NoSize) = some true)
    (kf_NoSize_Unreached : PySem.W.kitOne K (.ref D_NoSize) (.ref D_Unreached) = some false)
    (kf_NotRead_ValueError : PySem.W.kitOne K (.ref D_NotRead) (.type "ValueError") = some true)
    (kf_NoSize_ValueError : PySem.W.kitOne K (.ref D_NoSize) (.type "ValueError") = some true)
    (a_L_cell_at : PySem.W.nsIn K mainGlobals "_law_cell_at" = some (some (.ref f_L_cell_at)))
    (l_L_cell_at : K.lookup f_L_cell_at = some ⟨oc_L_cell_at, od_L_cell_at, .func (PySem.W.fnOf "_law_cell_at" "_law_cell_at" (defArgs s_L_cell_at) (defBody s_L_cell_at) (defScope s_L_cell_at) .none kV_L_cell_at dc_L_cell_at pm_L_cell_at an_L_cell_at cd_L_cell_at ct_L_cell_at), sl_L_cell_at⟩)
    (co_L_cell_at : PySem.W.codeIn K cd_L_cell_at "_law_cell_at" = true)
    (ke_L_cell_at : PySem.W.keepIn K (.ref f_L_cell_at) = true)
    (a_L_sign : PySem.W.nsIn K mainGlobals "_law_sign" = some (some (.ref f_L_sign)))
    (l_L_sign : K.lookup f_L_sign = some ⟨oc_L_sign, od_L_sign, .func (PySem.W.fnOf "_law_sign" "_law_sign" (defArgs s_L_sign) (defBody s_L_sign) (defScope s_L_sign) .none kV_L_sign dc_L_sign pm_L_sign an_L_sign cd_L_sign ct_L_sign), sl_L_sign⟩)
    (co_L_sign : PySem.W.codeIn K cd_L_sign "_law_sign" = true)
    (ke_L_sign : PySem.W.keepIn K (.ref f_L_sign) = true)
    (a_L_changed : PySem.W.nsIn K mainGlobals "_law_changed" = some (some (.ref f_L_changed)))
    (l_L_changed : K.lookup f_L_changed = some ⟨oc_L_changed, od_L_changed, .func (PySem.W.fnOf "_law_changed" "_law_changed" (defArgs s_L_changed) (defBody s_L_changed) (defScope s_L_changed) .none kV_L_changed dc_L_changed pm_L_changed an_L_changed cd_L_changed ct_L_changed), sl_L_changed⟩)
    (co_L_changed : PySem.W.codeIn K cd_L_changed "_law_changed" = true)
    (ke_L_changed : PySem.W.keepIn K (.ref f_L_changed) = true)
    (a_L_seat : PySem.W.nsIn K mainGlobals "_law_seat" = some (some (.ref f_L_seat)))
    (l_L_seat : K.lookup f_L_seat = some ⟨oc_L_seat, od_L_seat, .func (PySem.W.fnOf "_law_seat" "_law_seat" (defArgs s_L_seat) (defBody s_L_seat) (defScope s_L_seat) .none kV_L_seat dc_L_seat pm_L_seat an_L_seat cd_L_seat ct_L_seat), sl_L_seat⟩)
    (co_L_seat : PySem.W.codeIn K cd_L_seat "_law_seat" = true)
    (ke_L_seat : PySem.W.keepIn K (.ref f_L_seat) = true)
    (a_L_due_k08 : PySem.W.nsIn K mainGlobals "_law_due" = some (some (.ref f_L_due_k08)))
    (l_L_due_k08 : K.lookup f_L_due_k08 = some ⟨oc_L_due_k08, od_L_due_k08, .func (PySem.W.fnOf "_law_due" "_law_due" (defArgs s_L_due_k08) (defBody s_L_due_k08) (defScope s_L_due_k08) .none kV_L_due_k08 dc_L_due_k08 pm_L_due_k08 an_L_due_k08 cd_L_due_k08 ct_L_due_k08), sl_L_due_k08⟩)
    (co_L_due_k08 : PySem.W.codeIn K cd_L_due_k08 "_law_due" = true)
    (ke_L_due_k08 : PySem.W.keepIn K (.ref f_L_due_k08) = true)
    (a_L_far : PySem.W.nsIn K mainGlobals "_law_far" = some (some (.ref f_L_far)))
    (l_L_far : K.lookup f_L_far = some ⟨oc_L_far, od_L_far, .func (PySem.W.fnOf "_law_far" "_law_far" (defArgs s_L_far) (defBody s_L_far) (defScope s_L_far) .none kV_L_far dc_L_far pm_L_far an_L_far cd_L_far ct_L_far), sl_L_far⟩)
    (co_L_far : PySem.W.codeIn K cd_L_far "_law_far" = true)
    (ke_L_far : PySem.W.keepIn K (.ref f_L_far) = true)
    (a_L_odd : PySem.W.nsIn K mainGlobals "_law_odd" = some (some (.ref f_L_odd)))
    (l_L_odd : K.lookup f_L_odd = some ⟨oc_L_odd, od_L_odd, .func (PySem.W.fnOf "_law_odd" "_law_odd" (defArgs s_L_odd) (defBody s_L_odd) (defScope s_L_odd) .none kV_L_odd dc_L_odd pm_L_odd an_L_odd cd_L_odd ct_L_odd), sl_L_odd⟩)
    (co_L_odd : PySem.W.codeIn K cd_L_odd "_law_odd" = true)
    (ke_L_odd : PySem.W.keepIn K (.ref f_L_odd) = true)
    (a_ask_size : PySem.W.nsIn K mainGlobals "ask_size" = some (some (.ref f_ask_size)))
    (l_ask_size : K.lookup f_ask_size = some ⟨oc_ask_size, od_ask_size, .func (PySem.W.fnOf "ask_size" "ask_size" (defArgs s_ask_size) (defBody s_ask_size) (defScope s_ask_size) .none kV_ask_size dc_ask_size pm_ask_size an_ask_size cd_ask_size ct_ask_size), sl_ask_size⟩)
    (co_ask_size : PySem.W.codeIn K cd_ask_size "ask_size" = true)
    (ke_ask_size : PySem.W.keepIn K (.ref f_ask_size) = true)
    (a_rest : PySem.W.nsIn K mainGlobals "rest" = some (some (.ref f_rest)))
    (l_rest : K.lookup f_rest = some ⟨oc_rest, od_rest, .func (PySem.W.fnOf "rest" "rest" (defArgs s_rest) (defBody s_rest) (defScope s_rest) .none kV_rest dc_rest pm_rest an_rest cd_rest ct_rest), sl_rest⟩)
    (co_rest : PySem.W.codeIn K cd_rest "rest" = true)
    (ke_rest : PySem.W.keepIn K (.ref f_rest) = true)
    (a_seat_of : PySem.W.nsIn K mainGlobals "seat_of" = some (some (.ref f_seat_of)))
    (l_seat_of : K.lookup f_seat_of = some ⟨oc_seat_of, od_seat_of, .func (PySem.W.fnOf "seat_of" "seat_of" (defArgs s_seat_of) (defBody s_seat_of) (defScope s_seat_of) .none kV_seat_of dc_seat_of pm_seat_of an_seat_of cd_seat_of ct_seat_of), sl_seat_of⟩)
    (co_seat_of : PySem.W.codeIn K cd_seat_of "seat_of" = true)
    (ke_seat_of : PySem.W.keepIn K (.ref f_seat_of) = true)
    (a_read : PySem.W.nsIn K mainGlobals "read" = some (some (.ref f_read)))
    (l_read : K.lookup f_read = some ⟨oc_read, od_read, .func (PySem.W.fnOf "read" "read" (defArgs s_read) (defBody s_read) (defScope s_read) .none kV_read dc_read pm_read an_read cd_read ct_read), sl_read⟩)
    (co_read : PySem.W.codeIn K cd_read "read" = true)
    (ke_read : PySem.W.keepIn K (.ref f_read) = true)
    (a_L_refused_k08 : PySem.W.nsIn K mainGlobals "_law_refused" = some (some (.ref f_L_refused_k08)))
    (l_L_refused_k08 : K.lookup f_L_refused_k08 = some ⟨oc_L_refused_k08, od_L_refused_k08, .func (PySem.W.fnOf "_law_refused" "_law_refused" (defArgs s_L_refused_k08) (defBody s_L_refused_k08) (defScope s_L_refused_k08) .none kV_L_refused_k08 dc_L_refused_k08 pm_L_refused_k08 an_L_refused_k08 cd_L_refused_k08 ct_L_refused_k08), sl_L_refused_k08⟩)
    (co_L_refused_k08 : PySem.W.codeIn K cd_L_refused_k08 "_law_refused" = true)
    (ke_L_refused_k08 : PySem.W.keepIn K (.ref f_L_refused_k08) = true)
    (a_L_rings_k08 : PySem.W.nsIn K mainGlobals "_law_rings" = some (some (.ref f_L_rings_k08)))
    (l_L_rings_k08 : K.lookup f_L_rings_k08 = some ⟨oc_L_rings_k08, od_L_rings_k08, .func (PySem.W.fnOf "_law_rings" "_law_rings" (defArgs s_L_rings_k08) (defBody s_L_rings_k08) (defScope s_L_rings_k08) .none kV_L_rings_k08 dc_L_rings_k08 pm_L_rings_k08 an_L_rings_k08 cd_L_rings_k08 ct_L_rings_k08), sl_L_rings_k08⟩)
    (co_L_rings_k08 : PySem.W.codeIn K cd_L_rings_k08 "_law_rings" = true)
    (ke_L_rings_k08 : PySem.W.keepIn K (.ref f_L_rings_k08) = true)
    (a_L_whole : PySem.W.nsIn K mainGlobals "_law_whole" = some (some (.ref f_L_whole)))
    (l_L_whole : K.lookup f_L_whole = some ⟨oc_L_whole, od_L_whole, .func (PySem.W.fnOf "_law_whole" "_law_whole" (defArgs s_L_whole) (defBody s_L_whole) (defScope s_L_whole) .none kV_L_whole dc_L_whole pm_L_whole an_L_whole cd_L_whole ct_L_whole), sl_L_whole⟩)
    (co_L_whole : PySem.W.codeIn K cd_L_whole "_law_whole" = true)
    (ke_L_whole : PySem.W.keepIn K (.ref f_L_whole) = true)
    (a_L_same : PySem.W.nsIn K mainGlobals "_law_same" = some (some (.ref f_L_same)))
    (l_L_same : K.lookup f_L_same = some ⟨oc_L_same, od_L_same, .func (PySem.W.fnOf "_law_same" "_law_same" (defArgs s_L_same) (defBody s_L_same) (defScope s_L_same) .none kV_L_same dc_L_same pm_L_same an_L_same cd_L_same ct_L_same), sl_L_same⟩)
    (co_L_same : PySem.W.codeIn K cd_L_same "_law_same" = true)
    (ke_L_same : PySem.W.keepIn K (.ref f_L_same) = true)
    (a_L_text : PySem.W.nsIn K mainGlobals "_law_text" = some (some (.ref f_L_text)))
    (l_L_text : K.lookup f_L_text = some ⟨oc_L_text, od_L_text, .func (PySem.W.fnOf "_law_text" "_law_text" (defArgs s_L_text) (defBody s_L_text) (defScope s_L_text) .none kV_L_text dc_L_text pm_L_text an_L_text cd_L_text ct_L_text), sl_L_text⟩)
    (co_L_text : PySem.W.codeIn K cd_L_text "_law_text" = true)
    (ke_L_text : PySem.W.keepIn K (.ref f_L_text) = true)
    (a_law_k08 : PySem.W.nsIn K mainGlobals "law" = some (some (.ref f_law_k08)))
    (l_law_k08 : K.lookup f_law_k08 = some ⟨oc_law_k08, od_law_k08, .func (PySem.W.fnOf "law" "law" (defArgs s_law_k08) (defBody s_law_k08) (defScope s_law_k08) .none kV_law_k08 dc_law_k08 pm_law_k08 an_law_k08 cd_law_k08 ct_law_k08), sl_law_k08⟩)
    (co_law_k08 : PySem.W.codeIn K cd_law_k08 "law" = true)
    (ke_law_k08 : PySem.W.keepIn K (.ref f_law_k08) = true) :
    ∃ fd : FuncData, (∀ (s : Shared) (v : Value), BindsTo s fd ⟨[v], []⟩ [("script", v)]) ∧ ∀ base : Heap, K.In base → base.Ns mainGlobals mg → FnOk l.prog w K mg base (L2.CX l.prog w) 5 fa fd ["script"] (sp_law K) := by
  have e := hfa.symm.trans (PySem.W.mg_of X G a_law_k08)
  cases e
  have T : Txt K mg { w := w, NoSize := D_NoSize, NotRead := D_NotRead, RoomError := D_RoomError, Unreached := D_Unreached } := {
    z_ValueError := PySem.W.mg_none_of X G z_ValueError
    z_bool := PySem.W.mg_none_of X G z_bool
    z_int := PySem.W.mg_none_of X G z_int
    z_isinstance := PySem.W.mg_none_of X G z_isinstance
    z_len := PySem.W.mg_none_of X G z_len
    z_list := PySem.W.mg_none_of X G z_list
    z_min := PySem.W.mg_none_of X G z_min
    z_range := PySem.W.mg_none_of X G z_range
    z_str := PySem.W.mg_none_of X G z_str
    z_tuple := PySem.W.mg_none_of X G z_tuple
    c_FIGURES := ⟨_, PySem.W.mg_of X G c_FIGURES⟩
    c_MOST := ⟨_, PySem.W.mg_of X G c_MOST⟩
    g_NoSize := PySem.W.mg_of X G ga_NoSize
    g_NotRead := PySem.W.mg_of X G ga_NotRead
    g_RoomError := PySem.W.mg_of X G ga_RoomError
    g_Unreached := PySem.W.mg_of X G ga_Unreached
    x_NoSize := ⟨PySem.W.mg_of X G ga_NoSize, xe_NoSize, xk_NoSize, xb_NoSize, xt_NoSize⟩
    x_NotRead := ⟨PySem.W.mg_of X G ga_NotRead, xe_NotRead, xk_NotRead, xb_NotRead, xt_NotRead⟩
    x_RoomError := ⟨PySem.W.mg_of X G ga_RoomError, xe_RoomError, xk_RoomError, xb_RoomError, xt_RoomError⟩
    x_Unreached := ⟨PySem.W.mg_of X G ga_Unreached, xe_Unreached, xk_Unreached, xb_Unreached, xt_Unreached⟩
    m_NotRead_RoomError := PySem.W.exm_ref xb_RoomError hdx_RoomError xt_RoomError sb_NotRead_RoomError
    m_NoSize_RoomError := PySem.W.exm_ref xb_RoomError hdx_RoomError xt_RoomError sb_NoSize_RoomError
    e_NotRead := ⟨eg_NotRead, ek_NotRead, xb_NotRead, hdx_NotRead, ea_NotRead, e_hn, e_ht, em_NotRead⟩
    e_NoSize := ⟨eg_NoSize, ek_NoSize, xb_NoSize, hdx_NoSize, ea_NoSize, e_hn, e_ht, em_NoSize⟩
    k_NotRead_NotRead := kf_NotRead_NotRead
    k_NotRead_NoSize := kf_NotRead_NoSize
    k_NotRead_Unreached := kf_NotRead_Unreached
    k_NoSize_NotRead := kf_NoSize_NotRead
    k_NoSize_NoSize := kf_NoSize_NoSize
    k_NoSize_Unreached := kf_NoSize_Unreached
    k_NotRead_ValueError := kf_NotRead_ValueError
    k_NoSize_ValueError := kf_NoSize_ValueError
  }
  have F_L_cell_at := fun_mk (st := s_L_cell_at) l_L_cell_at co_L_cell_at ke_L_cell_at
  have b_L_cell_at := F_L_cell_at.binds (ps := ["script", "k"]) fun _ _ _ _ _ _ us hl => match us, hl with | [_, _], _ => rfl
  have F_L_sign := fun_mk (st := s_L_sign) l_L_sign co_L_sign ke_L_sign
  have b_L_sign := F_L_sign.binds (ps := ["cell"]) fun _ _ _ _ _ _ us hl => match us, hl with | [_], _ => rfl
  have F_L_changed := fun_mk (st := s_L_changed) l_L_changed co_L_changed ke_L_changed
  have b_L_changed := F_L_changed.binds (ps := ["text", "cell", "at"]) fun _ _ _ _ _ _ us hl => match us, hl with | [_, _, _], _ => rfl
  have F_L_seat := fun_mk (st := s_L_seat) l_L_seat co_L_seat ke_L_seat
  have b_L_seat := F_L_seat.binds (ps := ["word", "size", "used"]) fun _ _ _ _ _ _ us hl => match us, hl with | [_, _, _], _ => rfl
  have F_L_due_k08 := fun_mk (st := s_L_due_k08) l_L_due_k08 co_L_due_k08 ke_L_due_k08
  have b_L_due_k08 := F_L_due_k08.binds (ps := ["text", "size"]) fun _ _ _ _ _ _ us hl => match us, hl with | [_, _], _ => rfl
  have F_L_far := fun_mk (st := s_L_far) l_L_far co_L_far ke_L_far
  have b_L_far := F_L_far.binds (ps := ["cell", "size"]) fun _ _ _ _ _ _ us hl => match us, hl with | [_, _], _ => rfl
  have F_L_odd := fun_mk (st := s_L_odd) l_L_odd co_L_odd ke_L_odd
  have b_L_odd := F_L_odd.binds (ps := ["cell"]) fun _ _ _ _ _ _ us hl => match us, hl with | [_], _ => rfl
  have F_ask_size := fun_mk (st := s_ask_size) l_ask_size co_ask_size ke_ask_size
  have b_ask_size := F_ask_size.binds (ps := ["size"]) fun _ _ _ _ _ _ us hl => match us, hl with | [_], _ => rfl
  have F_rest := fun_mk (st := s_rest) l_rest co_rest ke_rest
  have b_rest := F_rest.binds (ps := ["size"]) fun _ _ _ _ _ _ us hl => match us, hl with | [_], _ => rfl
  have F_seat_of := fun_mk (st := s_seat_of) l_seat_of co_seat_of ke_seat_of
  have b_seat_of := F_seat_of.binds (ps := ["word", "size"]) fun _ _ _ _ _ _ us hl => match us, hl with | [_, _], _ => rfl
  have F_read := fun_mk (st := s_read) l_read co_read ke_read
  have b_read := F_read.binds (ps := ["text", "size"]) fun _ _ _ _ _ _ us hl => match us, hl with | [_, _], _ => rfl
  have F_L_refused_k08 := fun_mk (st := s_L_refused_k08) l_L_refused_k08 co_L_refused_k08 ke_L_refused_k08
  have b_L_refused_k08 := F_L_refused_k08.binds (ps := ["text", "size"]) fun _ _ _ _ _ _ us hl => match us, hl with | [_, _], _ => rfl
  have F_L_rings_k08 := fun_mk (st := s_L_rings_k08) l_L_rings_k08 co_L_rings_k08 ke_L_rings_k08
  have b_L_rings_k08 := F_L_rings_k08.binds (ps := ["a"]) fun _ _ _ _ _ _ us hl => match us, hl with | [_], _ => rfl
  have F_L_whole := fun_mk (st := s_L_whole) l_L_whole co_L_whole ke_L_whole
  have b_L_whole := F_L_whole.binds (ps := ["found"]) fun _ _ _ _ _ _ us hl => match us, hl with | [_], _ => rfl
  have F_L_same := fun_mk (st := s_L_same) l_L_same co_L_same ke_L_same
  have b_L_same := F_L_same.binds (ps := ["found", "due"]) fun _ _ _ _ _ _ us hl => match us, hl with | [_, _], _ => rfl
  have F_L_text := fun_mk (st := s_L_text) l_L_text co_L_text ke_L_text
  have b_L_text := F_L_text.binds (ps := ["parts", "cell"]) fun _ _ _ _ _ _ us hl => match us, hl with | [_, _], _ => rfl
  have F_law_k08 := fun_mk (st := s_law_k08) l_law_k08 co_law_k08 ke_law_k08
  refine ⟨PySem.W.fnOf "law" "law" (defArgs s_law_k08) (defBody s_law_k08) (defScope s_law_k08) .none kV_law_k08 dc_law_k08 pm_law_k08 an_law_k08 cd_law_k08 ct_law_k08, fun s v => .of_eq rfl, fun base _ _ => ?_⟩
  have c_L_cell_at : Cal l.prog w K mg base 1 "_law_cell_at" ["script", "k"] (sp_L_cell_at K _) := ⟨_, _, PySem.W.mg_of X G a_L_cell_at, ke_L_cell_at, b_L_cell_at, ok_L_cell_at (P := l.prog) (w := w) (base := base) T F_L_cell_at ⟩
  have c_L_sign : Cal l.prog w K mg base 1 "_law_sign" ["cell"] (sp_L_sign K _) := ⟨_, _, PySem.W.mg_of X G a_L_sign, ke_L_sign, b_L_sign, ok_L_sign (P := l.prog) (w := w) (base := base) T F_L_sign ⟩
  have c_L_changed : Cal l.prog w K mg base 2 "_law_changed" ["text", "cell", "at"] (sp_L_changed K _) := ⟨_, _, PySem.W.mg_of X G a_L_changed, ke_L_changed, b_L_changed, ok_L_changed (P := l.prog) (w := w) (base := base) T F_L_changed c_L_sign⟩
  have c_L_seat : Cal l.prog w K mg base 1 "_law_seat" ["word", "size", "used"] (sp_L_seat K _) := ⟨_, _, PySem.W.mg_of X G a_L_seat, ke_L_seat, b_L_seat, ok_L_seat (P := l.prog) (w := w) (base := base) T F_L_seat ⟩
  have c_L_due_k08 : Cal l.prog w K mg base 2 "_law_due" ["text", "size"] (sp_L_due_k08 K _) := ⟨_, _, PySem.W.mg_of X G a_L_due_k08, ke_L_due_k08, b_L_due_k08, ok_L_due_k08 (P := l.prog) (w := w) (base := base) T F_L_due_k08 c_L_seat⟩
  have c_L_far : Cal l.prog w K mg base 1 "_law_far" ["cell", "size"] (sp_L_far K _) := ⟨_, _, PySem.W.mg_of X G a_L_far, ke_L_far, b_L_far, ok_L_far (P := l.prog) (w := w) (base := base) T F_L_far ⟩
  have c_L_odd : Cal l.prog w K mg base 1 "_law_odd" ["cell"] (sp_L_odd K _) := ⟨_, _, PySem.W.mg_of X G a_L_odd, ke_L_odd, b_L_odd, ok_L_odd (P := l.prog) (w := w) (base := base) T F_L_odd ⟩
  have c_ask_size : Cal l.prog w K mg base 1 "ask_size" ["size"] (sp_ask_size K _) := ⟨_, _, PySem.W.mg_of X G a_ask_size, ke_ask_size, b_ask_size, ok_ask_size (P := l.prog) (w := w) (base := base) T F_ask_size ⟩
  have c_rest : Cal l.prog w K mg base 2 "rest" ["size"] (sp_rest K _) := ⟨_, _, PySem.W.mg_of X G a_rest, ke_rest, b_rest, ok_rest (P := l.prog) (w := w) (base := base) T F_rest c_ask_size⟩
  have c_seat_of : Cal l.prog w K mg base 1 "seat_of" ["word", "size"] (sp_seat_of K _) := ⟨_, _, PySem.W.mg_of X G a_seat_of, ke_seat_of, b_seat_of, ok_seat_of (P := l.prog) (w := w) (base := base) T F_seat_of ⟩
  have c_read : Cal l.prog w K mg base 3 "read" ["text", "size"] (sp_read K _) := ⟨_, _, PySem.W.mg_of X G a_read, ke_read, b_read, ok_read (P := l.prog) (w := w) (base := base) T F_read c_ask_size c_rest c_seat_of⟩
  have c_L_refused_k08 : Cal l.prog w K mg base 4 "_law_refused" ["text", "size"] (sp_L_refused_k08 K _) := ⟨_, _, PySem.W.mg_of X G a_L_refused_k08, ke_L_refused_k08, b_L_refused_k08, ok_L_refused_k08 (P := l.prog) (w := w) (base := base) T F_L_refused_k08 c_read⟩
  have c_L_rings_k08 : Cal l.prog w K mg base 1 "_law_rings" ["a"] (sp_L_rings_k08 K _) := ⟨_, _, PySem.W.mg_of X G a_L_rings_k08, ke_L_rings_k08, b_L_rings_k08, ok_L_rings_k08 (P := l.prog) (w := w) (base := base) T F_L_rings_k08 ⟩
  have c_L_whole : Cal l.prog w K mg base 1 "_law_whole" ["found"] (sp_L_whole K _) := ⟨_, _, PySem.W.mg_of X G a_L_whole, ke_L_whole, b_L_whole, ok_L_whole (P := l.prog) (w := w) (base := base) T F_L_whole ⟩
  have c_L_same : Cal l.prog w K mg base 2 "_law_same" ["found", "due"] (sp_L_same K _) := ⟨_, _, PySem.W.mg_of X G a_L_same, ke_L_same, b_L_same, ok_L_same (P := l.prog) (w := w) (base := base) T F_L_same c_L_whole⟩
  have c_L_text : Cal l.prog w K mg base 1 "_law_text" ["parts", "cell"] (sp_L_text K _) := ⟨_, _, PySem.W.mg_of X G a_L_text, ke_L_text, b_L_text, ok_L_text (P := l.prog) (w := w) (base := base) T F_L_text ⟩
  exact ok_law_k08 (P := l.prog) (w := w) (base := base) T F_law_k08 c_L_cell_at c_L_changed c_L_due_k08 c_L_far c_L_odd c_L_refused_k08 c_L_rings_k08 c_L_same c_L_text c_read
theorem walk {l : PySem.W.OpenLaw} {q : Program} {loose : List Str} {XP : (Str → Option Value) → Heap → Prop} {YP : World → Heap → Prop} {d : DefRec} {K : Params → PySem.W.Frag} (hn : l.most = some 63) (hdf : d.params.defaults = [])
    (hY : ∀ (w : World) (h : Heap), YP w h → (K w.params).In h)
    (F : ∀ (w : World) (mg : Str → Option Value) (fa : Addr) (h : Heap), (K w.params).In h → h.Ns mainGlobals mg → mg d.name = some (.ref fa) →
      ∃ fd : FuncData, (∀ (s : Shared) (u : Value), BindsTo s fd ⟨[u], []⟩ [("script", u)]) ∧ ∀ base : Heap, (K w.params).In base → base.Ns mainGlobals mg → FnOk l.prog w (K w.params) mg base (L2.CX l.prog w) 5 fa fd ["script"] (sp_law (K w.params))) :
    PySem.W.WalkO q loose XP YP l.row.toRowW d [] (fun f vs => PySem.call f vs) :=
  L2.walk_of (n := 63) (k := 5) (x := "script") (CX := fun w => L2.CX l.prog w) (sp := fun w => sp_law (K w.params)) hn (by decide) hdf ⟨rfl, by decide, by decide⟩ hY F (fun _ _ a ns hl _ hS => ⟨a, ns, rfl, hS, hl, fun _ => rfl⟩) fun _ _ _ _ _ z => cx_none z
end Shf
open PySem PySem.W PyProof.Rows
set_option maxRecDepth 100000 in
set_option maxHeartbeats 0 in
theorem PySem.Challenge.cw_shiftroom_k08_read_holds : PySem.Challenge.rw_shiftroom_k08_read.Holds := by
  w_on; o_law; k_head; (case hw => w_witness2)
  k_fill
  refine Shf.walk (l := PySem.Challenge.rw_shiftroom_k08_read) rfl rfl (fun w h Y => PySem.W.kIn_of Y) ?F
  case F =>
    intro w mg fa h KX G hmg
    refine' Shf.all_mk KX G hmg ?z_ValueError ?z_bool ?z_int ?z_isinstance ?z_len ?z_list ?z_min ?z_range ?z_str ?z_tuple ?c_FIGURES ?c_MOST ?ga_NoSize ?xe_NoSize ?xk_NoSize ?xb_NoSize ?xt_NoSize ?ga_NotRead ?xe_NotRead ?xk_NotRead ?xb_NotRead ?xt_NotRead ?ga_RoomError ?xe_RoomError ?xk_RoomError ?xb_RoomError ?xt_RoomError ?ga_Unreached ?xe_Unreached ?xk_Unreached ?xb_Unreached ?xt_Unreached ?hdx_RoomError ?sb_NotRead_RoomError ?sb_NoSize_RoomError ?eg_NotRead ?ek_NotRead ?hdx_NotRead ?ea_NotRead ?e_hn ?e_ht ?em_NotRead ?eg_NoSize ?ek_NoSize ?hdx_NoSize ?ea_NoSize ?em_NoSize ?kf_NotRead_NotRead ?kf_NotRead_NoSize ?kf_NotRead_Unreached ?kf_NoSize_NotRead ?kf_NoSize_NoSize ?kf_NoSize_Unreached ?kf_NotRead_ValueError ?kf_NoSize_ValueError ?a_L_cell_at ?l_L_cell_at ?co_L_cell_at ?ke_L_cell_at ?a_L_sign ?l_L_sign ?co_L_sign ?ke_L_sign ?a_L_changed ?l_L_changed ?co_L_changed ?ke_L_changed ?a_L_seat ?l_L_seat ?co_L_seat ?ke_L_seat ?a_L_due_k08 ?l_L_due_k08 ?co_L_due_k08 ?ke_L_due_k08 ?a_L_far ?l_L_far ?co_L_far ?ke_L_far ?a_L_odd ?l_L_odd ?co_L_odd ?ke_L_odd ?a_ask_size ?l_ask_size ?co_ask_size ?ke_ask_size ?a_rest ?l_rest ?co_rest ?ke_rest ?a_seat_of ?l_seat_of ?co_seat_of ?ke_seat_of ?a_read ?l_read ?co_read ?ke_read ?a_L_refused_k08 ?l_L_refused_k08 ?co_L_refused_k08 ?ke_L_refused_k08 ?a_L_rings_k08 ?l_L_rings_k08 ?co_L_rings_k08 ?ke_L_rings_k08 ?a_L_whole ?l_L_whole ?co_L_whole ?ke_L_whole ?a_L_same ?l_L_same ?co_L_same ?ke_L_same ?a_L_text ?l_L_text ?co_L_text ?ke_L_text ?a_law_k08 ?l_law_k08 ?co_law_k08 ?ke_law_k08
    (case z_ValueError => k_is)
    (case z_bool => k_is)
    (case z_int => k_is)
    (case z_isinstance => k_is)
    (case z_len => k_is)
    (case z_list => k_is)
    (case z_min => k_is)
    (case z_range => k_is)
    (case z_str => k_is)
    (case z_tuple => k_is)
    (case c_FIGURES => k_is)
    (case c_MOST => k_is)
    (case ga_NoSize => k_is)
    (case xe_NoSize => k_exc)
    (case xk_NoSize => k_is)
    (case xb_NoSize => k_is)
    (case xt_NoSize => k_is)
    (case ga_NotRead => k_is)
    (case xe_NotRead => k_exc)
    (case xk_NotRead => k_is)
    (case xb_NotRead => k_is)
    (case xt_NotRead => k_is)
    (case ga_RoomError => k_is)
    (case xe_RoomError => k_exc)
    (case xk_RoomError => k_is)
    (case xb_RoomError => k_is)
    (case xt_RoomError => k_is)
    (case ga_Unreached => k_is)
    (case xe_Unreached => k_exc)
    (case xk_Unreached => k_is)
    (case xb_Unreached => k_is)
    (case xt_Unreached => k_is)
    (case hdx_RoomError => k_is)
    (case sb_NotRead_RoomError => k_is)
    (case sb_NoSize_RoomError => k_is)
    (case eg_NotRead => k_is)
    (case ek_NotRead => k_is)
    (case hdx_NotRead => k_is)
    (case ea_NotRead => k_is)
    (case e_hn => k_is)
    (case e_ht => k_is)
    (case em_NotRead => k_is)
    (case eg_NoSize => k_is)
    (case ek_NoSize => k_is)
    (case hdx_NoSize => k_is)
    (case ea_NoSize => k_is)
    (case em_NoSize => k_is)
    (case kf_NotRead_NotRead => kit_is)
    (case kf_NotRead_NoSize => kit_is)
    (case kf_NotRead_Unreached => kit_is)
    (case kf_NoSize_NotRead => kit_is)
    (case kf_NoSize_NoSize => kit_is)
    (case kf_NoSize_Unreached => kit_is)
    (case kf_NotRead_ValueError => kit_is)
    (case kf_NoSize_ValueError => kit_is)
    (case a_L_cell_at => k_is)
    (case l_L_cell_at => k_is)
    (case co_L_cell_at => k_is)
    (case ke_L_cell_at => k_is)
    (case a_L_sign => k_is)
    (case l_L_sign => k_is)
    (case co_L_sign => k_is)
    (case ke_L_sign => k_is)
    (case a_L_changed => k_is)
    (case l_L_changed => k_is)
    (case co_L_changed => k_is)
    (case ke_L_changed => k_is)
    (case a_L_seat => k_is)
    (case l_L_seat => k_is)
    (case co_L_seat => k_is)
    (case ke_L_seat => k_is)
    (case a_L_due_k08 => k_is)
    (case l_L_due_k08 => k_is)
    (case co_L_due_k08 => k_is)
    (case ke_L_due_k08 => k_is)
    (case a_L_far => k_is)
    (case l_L_far => k_is)
    (case co_L_far => k_is)
    (case ke_L_far => k_is)
    (case a_L_odd => k_is)
    (case l_L_odd => k_is)
    (case co_L_odd => k_is)
    (case ke_L_odd => k_is)
    (case a_ask_size => k_is)
    (case l_ask_size => k_is)
    (case co_ask_size => k_is)
    (case ke_ask_size => k_is)
    (case a_rest => k_is)
    (case l_rest => k_is)
    (case co_rest => k_is)
    (case ke_rest => k_is)
    (case a_seat_of => k_is)
    (case l_seat_of => k_is)
    (case co_seat_of => k_is)
    (case ke_seat_of => k_is)
    (case a_read => k_is)
    (case l_read => k_is)
    (case co_read => k_is)
    (case ke_read => k_is)
    (case a_L_refused_k08 => k_is)
    (case l_L_refused_k08 => k_is)
    (case co_L_refused_k08 => k_is)
    (case ke_L_refused_k08 => k_is)
    (case a_L_rings_k08 => k_is)
    (case l_L_rings_k08 => k_is)
    (case co_L_rings_k08 => k_is)
    (case ke_L_rings_k08 => k_is)
    (case a_L_whole => k_is)
    (case l_L_whole => k_is)
    (case co_L_whole => k_is)
    (case ke_L_whole => k_is)
    (case a_L_same => k_is)
    (case l_L_same => k_is)
    (case co_L_same => k_is)
    (case ke_L_same => k_is)
    (case a_L_text => k_is)
    (case l_L_text => k_is)
    (case co_L_text => k_is)
    (case ke_L_text => k_is)
    (case a_law_k08 => k_is)
    (case l_law_k08 => k_is)
    (case co_law_k08 => k_is)
    (case ke_law_k08 => k_is)
#print axioms PySem.Challenge.cw_shiftroom_k08_read_holds
