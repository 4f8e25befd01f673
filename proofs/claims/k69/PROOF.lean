import PyProof.Rows.All
import Wide.All
import OpenK.AllK
import Wide.FinOn
import KE.SortData
import HandS.ForMost
import HandS.ForExc
import HandS.Conv
import HandS.Sort
import HandS.SetFor
import HandS.TupLe
import HandS.TupAny
import HandS.TupMul
import HandS.IsInst
import HandS.Deep
import HandS.Wide
import HandS.Style
import HandS.ExcInit
import HandS.ExcField
import HandS.TryMany
import HandS.TupSets
import HandS.ClsMeth
import KE.GoesEnum
import HandS.Walk
import PySem.Challenge.RW_planwide_k69_whole_closed_and_reduced_pl
import HandS.ExcIs
set_option Elab.async false
set_option linter.all false
section
set_option maxRecDepth 100000
set_option maxHeartbeats 1000000
/-! KX: further rules over the hand layer, shared by the claims. -/
namespace KX
open PySem PySem.Spec PyProof.Rows L2

/-! ### names for the readings of operators and calls -/
abbrev rAddI : R2 := rI0 fun i j => .int (i + j)
abbrev rSubI : R2 := rI0 fun i j => .int (i - j)
abbrev rNeg : V → Hp → VK → Prop := rU fun i => .int (-i)
abbrev rLtI : R2 := rI0 fun i j => .bl (decide (i < j))
abbrev rLeI : R2 := rI0 fun i j => .bl (decide (i ≤ j))
abbrev rGtI : R2 := rI0 fun i j => .bl (decide (j < i))
abbrev rGeI : R2 := rI0 fun i j => .bl (decide (j ≤ i))
abbrev rModN : R2 := rI (fun _ j => j ≠ 0) fun i j => .int (i.fmod j)
abbrev rDivW : R2 := rI CDivW fun i j => .int (i / j)
abbrev rMulW : R2 := rI CMulW fun i j => .int (i * j)
abbrev rPow : R2 := rI CPow fun i j => .int (i ^ j.toNat)
abbrev rIsN : R2 := fun x y H Q => y = .non ∧ Q (.bl (decide (x = .non))) H
abbrev rNotN : R2 := fun x y H Q => y = .non ∧ Q (.bl (!decide (x = .non))) H
abbrev rIsBl : R2 := fun x y H Q => ∃ a b, x = .bl a ∧ y = .bl b ∧ Q (.bl (decide (a = b))) H
abbrev rAddStr : R2 := fun x y H Q => ∃ i j, x = .str i ∧ y = .str j ∧ i.length + j.length ≤ sizeLine ∧ Q (.str (i ++ j)) H
abbrev RC := List V → Hp → VK → Prop
abbrev rLenSeq (K : PySem.W.Frag) : RC := fun xs H Q => ∃ p ys, xs = [.ref p] ∧ (SqL K H p ys ∨ SqT K H p ys) ∧ Q (.int ys.length) H
abbrev rAbsI : RC := fun xs H Q => ∃ i, xs = [.int i] ∧ Q (.int (if i < 0 then -i else i)) H
abbrev rMax2 : RC := fun xs H Q => ∃ i j, xs = [.int i, .int j] ∧ Q (.int (if j > i then j else i)) H
abbrev rMin2 : RC := fun xs H Q => ∃ i j, xs = [.int i, .int j] ∧ Q (.int (if j < i then j else i)) H
abbrev rInt1 : RC := fun xs H Q => (∃ i, xs = [.int i] ∧ Q (.int i) H) ∨ ∃ k, xs = [.bl k] ∧ Q (.int (if k then 1 else 0)) H
abbrev rListOf (K : PySem.W.Frag) : RC := fun xs H Q => ∃ p ys, xs = [.ref p] ∧ (SqL K H p ys ∨ SqT K H p ys) ∧ ∀ l, H l = none → Q (.ref l) (upd H l (.lst ys))
abbrev rTupleOf (K : PySem.W.Frag) : RC := fun xs H Q => ∃ p ys, xs = [.ref p] ∧ ((SqL K H p ys ∧ ∀ l, H l = none → Q (.ref l) (upd H l (.tup ys))) ∨ (SqT K H p ys ∧ Q (.ref p) H))
abbrev rRange1 : RC := fun vs H Q => ∃ j, vs = [V.int j] ∧ ∀ p, H p = none → Q (.ref p) (upd H p (.rng 0 j))

section
variable {X : Cx}
/-! ### range as a value, and walked -/
theorem cr_range1 : CallR X (.type "range") rRange1 := by
  intro pins s σ H vs us Q I r h
  obtain ⟨j, rfl, q⟩ := h
  obtain ⟨u1, rfl, ri⟩ := vals1 r
  obtain ⟨t, rfl⟩ := ri
  refine call_range_1 ⟨.ref s.heap.objs.size, upd H s.heap.objs.size (.rng 0 j), ?_, rfl, q _ (I.hok.fresh (Nat.le_refl _))⟩
  refine I.laid (fun b o e => Heap.get?_push_of_some _ e) (Nat.le_refl _) ?_
  exact ⟨_, _, _, Heap.get?_push_size _ rfl⟩
/-- a range object that stands at an address, walked -/
def iRgV (tl : TE) : TI := fun σ H R => tl σ H fun x H1 => ∃ a lo hi, x = .ref a ∧ H1 a = some (.rng lo hi) ∧ (-(2 ^ 62) ≤ lo ∧ lo < 2 ^ 62 ∧ -(2 ^ 62) ≤ hi ∧ hi < 2 ^ 62) ∧ R (Itr lo (hi - lo).toNat) H1
theorem pi_rgV {tg l : Expr} {tl : TE} (hl : PE X l tl) : PI X tg l (iRgV tl) := by
  refine ⟨fun pins s σ H R I h => thn (hl.run pins s σ H _ I h) fun v s1 hv => ?_⟩
  obtain ⟨x, H1, I1, r1, a, lo, hi, e, ha, ⟨b1, b2, b3, b4⟩, q⟩ := hv
  subst e
  obtain rfl : v = Value.ref a := r1
  obtain ⟨t, u, w, ho⟩ := I1.hok a _ ha
  refine wpAny_pyIter_range (t := t) (u := u) (v := w) (a := lo) (b := hi) (c := 1) ho (small_one b1 b2 b3 b4) ?_
  have e1 : lo + ((0 : Nat) : Int) * 1 = lo := by simp
  have e2 : (((hi - lo).toNat : Nat) : Int) - ((0 : Nat) : Int) = Builtin.Range.rangeSize lo hi 1 := by rw [rangeSize_one]; split <;> omega
  refine ⟨s1.heap.objs.size, [s1.heap.objs.size], _, _, H1, rfl, I1.kept (t' := s1.toks) fun b o z => Heap.get?_push_of_some _ z, turn_range _ lo (hi - lo).toNat, ?_, fun b hb => ?_, q⟩
  · show IsRangeIter _ _ (lo + ((0 : Nat) : Int) * 1) ((((hi - lo).toNat : Nat) : Int) - ((0 : Nat) : Int)) 1
    rw [e1, e2]
    exact Heap.get?_push_size _ rfl
  · have e : b = s1.heap.objs.size := by simpa using hb
    subst e
    exact I1.fpOk (Nat.le_refl _) (I1.hok.fresh (Nat.le_refl _))
end

/-! ### sorted(xs), xs a list of tuples of ints (or their like), any length -/
theorem le_tuples : PySem.W.dataLe false (fun ns : List Int => PyData.tuple (ns.map .int)) = fun p q => decide (p ≤ q) := by
  funext p q
  show (!PySem.W.dataLt (.tuple (q.map .int)) (.tuple (p.map .int))) = _
  have e : PySem.W.dataLt (.tuple (q.map .int)) (.tuple (p.map .int)) = PySem.W.rowLt (q.map .int) (p.map .int) := by
    rw [PySem.W.dataLt_tuple]; rfl
  rw [e, PySem.W.dataLt_ints]
  by_cases h : q < p
  · have h' : ¬ p ≤ q := fun r => List.not_lt.mpr r h
    simp [h, h']
  · have h' : p ≤ q := List.not_lt.mp h
    simp [h, h']
theorem alike_ints' (xs ys : List Int) : PySem.W.alike (.tuple (xs.map .int)) (.tuple (ys.map .int)) = true := by
  simp only [PySem.W.alike]; exact PySem.W.alike_ints xs ys
/-- at x: a tuple of the ints ns -/
def Tup3 (K : PySem.W.Frag) (H : Hp) (x : V) (ns : List Int) : Prop := ∃ t, x = .ref t ∧ SqT K H t (ns.map V.int)
def leL (p q : List Int) : Bool := decide (p ≤ q)
def rSortedD (K : PySem.W.Frag) : RC := fun vs H Q => ∃ (a : Addr) (xs : List V) (nss : List (List Int)), vs = [V.ref a] ∧ SqL K H a xs ∧ Paired (Tup3 K H) xs nss ∧ (∀ ns ∈ nss, ns ≠ []) ∧
  ∀ ys p, H p = none → Paired (Tup3 K H) ys (nss.mergeSort leL) → Q (.ref p) (upd H p (.lst ys))
section
variable {X : Cx} {pins : List (Addr × Obj)} {σ : L2.St} {H : Hp} {s : Shared}
theorem Tup3.read (I : Inv X pins σ H s) {x : V} {ns : List Int} (h : Tup3 X.K H x ns) {u : Value} (r : RelV x u) : ∃ as, Reads s.heap u (.tuple (ns.map .int)) as := by
  obtain ⟨t, rfl, ht⟩ := h
  have d : ∀ ms : List Int, DpAll X.K H (ms.map V.int) (ms.map PyData.int) := fun ms => by
    induction ms with
    | nil => exact .nil
    | cons m ms ih => exact .cons (.int m) ih
  exact Dp.reads I _ _ u (.tup ht (d ns)) r
theorem each_of {K : PySem.W.Frag} {xs : List V} {nss : List (List Int)} (h : Paired (Tup3 K H) xs nss) : ∀ {us : List Value}, Vals xs us →
    PySem.W.EachIs (fun u ns => ∃ x, RelV x u ∧ Tup3 K H x ns) us nss := by
  induction h with
  | nil => intro us r; cases r; exact .nil
  | cons h _ ih =>
    intro us r
    cases r with
    | cons r1 r2 => exact .cons ⟨_, r1, h⟩ (ih r2)
theorem back_of {K : PySem.W.Frag} {us : List Value} {nss : List (List Int)} (h : PySem.W.EachIs (fun u ns => ∃ x, RelV x u ∧ Tup3 K H x ns) us nss) : ∃ xs, Vals xs us ∧ Paired (Tup3 K H) xs nss := by
  induction h with
  | nil => exact ⟨[], .nil, .nil⟩
  | cons h _ ih =>
    obtain ⟨xs, r, p⟩ := ih
    obtain ⟨x, rx, t⟩ := h
    exact ⟨x :: xs, .cons rx r, .cons t p⟩
theorem depth_tup (ns : List Int) : (PyData.tuple (ns.map .int)).depth ≤ 1 := by
  simp only [PyData.depth, PySem.W.depth_ints]; omega
theorem cr_sortedD (hu : X.A.units + 64 < cLine) : CallR X (.builtin "sorted") (rSortedD X.K) := by
  intro pins s σ H vs us Q I r h
  obtain ⟨a, xs, nss, rfl, hs, hp, hne, q⟩ := h
  obtain ⟨u, rfl, rx⟩ := vals1 r
  obtain rfl : u = Value.ref a := rx
  obtain ⟨its, rv, hl, hz⟩ := I.list hs
  have e := each_of hp rv
  have elen : nss.length = its.length := e.length.symm
  refine PySem.W.sorted_data (enc := fun ns : List Int => PyData.tuple (ns.map .int)) hl.isList e (e.mono fun u ns ⟨x, rx, t⟩ => t.read I rx)
    (PySem.W.AllAlike.of fun b b' => alike_ints' b b') (.inl fun d hd => ?_) (by rw [elen, ← rv.length]; exact hz) (fun b _ => by have := depth_tup b; show X.A.units + 2 + (PyData.tuple (b.map .int)).depth < cLine; omega) fun out hlen ho => ?_
  · obtain ⟨ns, hm, rfl⟩ := List.mem_map.mp hd
    cases ns with
    | nil => exact absurd rfl (hne _ hm)
    | cons n ns => exact ⟨_, _, rfl⟩
  · rw [le_tuples] at ho
    obtain ⟨ys, ry, py⟩ := back_of ho
    obtain ⟨ep, hat⟩ := sortedAll_at s.heap its out.toArray
    have hfr : H (s.heap.objs.size + 1) = none := I.hok.fresh (Nat.le_succ _)
    refine ⟨.ref (s.heap.objs.size + 1), upd H (s.heap.objs.size + 1) (.lst ys), I.laid (t' := s.toks) (fun b o z => sortedAll_old z) (Nat.le_succ _) ⟨?_, out, ep, ry, hat⟩, rfl, q ys _ hfr py⟩
    rw [ry.length, hlen, elen, ← rv.length]; exact hz
end
end KX
end

section
set_option maxRecDepth 100000
set_option maxHeartbeats 2000000
/-! KX2: membership in tuples of data, pairs stored in cells, great powers, own exceptions, several named except clauses, calls by keyword alone. -/
namespace KX
open PySem PySem.Spec PyProof.Rows L2

section
variable {X : Cx}
/-! ### x in t, t a tuple of data -/
def rInDT (K : PySem.W.Frag) : R2 := fun x y H Q => ∃ d ds, Dp K H x d ∧ Dp K H y (.tuple ds) ∧ SeqAt.shaped d = true ∧ SeqAt.shaped (.tuple ds) = true ∧ Q (.bl (ds.any fun z => PyData.eqv z d)) H
def rNotInDT (K : PySem.W.Frag) : R2 := fun x y H Q => ∃ d ds, Dp K H x d ∧ Dp K H y (.tuple ds) ∧ SeqAt.shaped d = true ∧ SeqAt.shaped (.tuple ds) = true ∧ Q (.bl (!ds.any fun z => PyData.eqv z d)) H
theorem op_inDT (hu : X.A.units + 65 < cLine) : OpR X (compareOp .In) (rInDT X.K) := by
  intro pins s σ H x y v u Q I rx ry h
  obtain ⟨d, ds, hd, he, sd, se, q⟩ := h
  obtain ⟨l1, r1⟩ := Dp.reads I d x v hd rx
  obtain ⟨l2, r2⟩ := Dp.reads I (.tuple ds) y u he ry
  exact SeqAt.in_tuple_reads r2 r1 (SeqAt.canLay_of_shaped se) (SeqAt.canLay_of_shaped sd) (room_in_shaped sd hu) ⟨.bl _, H, I, rfl, q⟩
theorem op_notInDT (hu : X.A.units + 65 < cLine) : OpR X (compareOp .NotIn) (rNotInDT X.K) := by
  intro pins s σ H x y v u Q I rx ry h
  obtain ⟨d, ds, hd, he, sd, se, q⟩ := h
  obtain ⟨l1, r1⟩ := Dp.reads I d x v hd rx
  obtain ⟨l2, r2⟩ := Dp.reads I (.tuple ds) y u he ry
  exact SeqAt.notIn_tuple_reads r2 r1 (SeqAt.canLay_of_shaped se) (SeqAt.canLay_of_shaped sd) (room_in_shaped sd hu) ⟨.bl _, H, I, rfl, q⟩

/-! ### great powers -/
def CPowB (i j : Int) : Prop := 0 ≤ j ∧ (Builtin.Int.intBits i : Int) * j ≤ 2 ^ 27
abbrev rPowB : R2 := rI CPowB fun i j => .int (i ^ j.toNat)
theorem op_powB : OpR X (binaryOp .Pow) rPowB := opI fun _ _ _ _ _ _ _ hc q => pow_int hc.1 hc.2 q

/-! ### calls by keyword alone, of a def that may raise; the same with places too -/
def tCallK0 (sp : Sp) (gV : List V → List V → List V) (E : L2.St → XK) (tk : TA) : TE := fun σ H Q => tk σ H fun zs H1 => sp (gV [] zs) H1 Q (E σ)
theorem pe_callK0 {CX : CXT} {k : Nat} {f : Addr} {fd : FuncData} {ps ks : List Str} {sp : Sp} {E : L2.St → XK} {x : Str} {p pos : Pos} {kws : List Keyword} {tk : TA} {g : List Value → List Value → List Value} {gV : List V → List V → List V}
    (F : FnOk X.prog X.w X.K X.mg X.base CX k f fd ps sp) (hr : Room k X.A) (hg : Gl X x) (hm : X.mg x = some (.ref f)) (hk : PySem.W.keepIn X.K (.ref f) = true) (hb : KBinds X.K fd ps ks g gV) (hx : ∀ σ, PassesAt CX X σ (E σ))
    (hkw : PK X kws tk) (hall : (backToKw pos (keywordEach kws X.env)).all (·.1.isSome) = true := by rfl) (hks : (backToKw pos (keywordEach kws X.env)).filterMap (·.1) = ks := by rfl)
    (hdb : (x == ("__debug__" : Str)) = false := by decide)
    (hpl : ((backTo pos (starEach [] X.env)).any (·.1) || (backToKw pos (keywordEach kws X.env)).any (·.1.isNone)) = false := by rfl) :
    PE X (.Call (.Name x p) [] kws pos) (tCallK0 sp gV E tk) := by
  refine ⟨fun pins s σ H Q I h => ?_⟩
  refine wpAny_Call_Name_kw (ld_glob I hg hm ?_ hdb)
  refine PySem.W.callWith_KW0 (h₀ := X.base) I.ok.mod.kin hk hall ?_ hpl
  refine thn (hkw.run pos pins s σ H _ I h) fun ws s2 ⟨zs, H2, I2, rz, q2⟩ => ⟨I2.kIn, ?_⟩
  rw [hks]
  have r2 := hb.rel (.nil : Vals [] []) rz
  have hl : (g [] ws).length = ps.length := by rw [← r2.length]; exact F.len _ _ _ _ q2
  refine wpAny_call (codeAny_mono (F.run X.A X.stack s2 H2 ⟨[], ks.zip ws⟩ (g [] ws) (gV [] zs) Q (E σ) hr I2.env0 (hb.to s2 [] ws I2.kIn hl) r2 q2) fun r s' hq => ?_)
  cases r with
  | error e => exact hx σ pins H2 s2 e s' I2 hq
  | ok fl =>
    cases fl with
    | ret u => exact I2.after hq
    | next => exact hq.elim
    | brk => exact hq.elim
    | cont => exact hq.elim

/-! ### Base.__init__(self, ..), Base an own class that takes ValueError's -/
structure PIni (K : PySem.W.Frag) (mg : Str → Option Value) (x : Str) (B : Addr) : Prop where
  gl : mg x = some (.ref B)
  kp : PySem.W.keepIn K (.ref B) = true
  ga : PySem.W.specialIn K (.ref B) "__getattribute__" = some (some (.builtin "type.__getattribute__"))
  rd : ∃ mc, PySem.W.readsIn K B mc = true ∧ PySem.W.findCls K (.ref B) mc "__init__" = some (.val (.builtin "ValueError.__init__"))
theorem pe_pinit {x : Str} {B : Addr} {e : Expr} {es : List Expr} {ta : TA} {p1 p2 pos : Pos} {pl : Sem Bool} (T : PIni X.K X.mg x B) (hg : Gl X x) (ha : PA X (e :: es) ta)
    (hc : eval (.Call (.Attribute (.Name x p1) "__init__" p2) (e :: es) [] pos) X.env = (do
      let ov ← eval (.Name x p1) X.env
      standAt p2.atName
      let (f, first) ← holding [ov] (getMethod ov "__init__" pl)
      callWith pos f first (backTo pos (starEach (e :: es) X.env)) (backToKw pos (keywordEach [] X.env))) := by rfl)
    (hdb : (x == ("__debug__" : Str)) = false := by decide)
    (he : starEach (e :: es) X.env = (false, eval e X.env) :: starEach es X.env := by rfl) (hpl : (backTo pos (starEach es X.env)).any (·.1) = false := by rfl) :
    PE X (.Call (.Attribute (.Name x p1) "__init__" p2) (e :: es) [] pos) (tVeI X.K ta) := by
  refine ⟨fun pins s σ H Q I h => ?_⟩
  obtain ⟨mc, r1, r2⟩ := T.rd
  refine PySem.W.methodCall_KW (ld_glob I hg T.gl ?_ hdb) hc
  refine PySem.W.method_cls I.kIn T.ga (PySem.W.cls_value I.kIn r1 r2 rfl ?_)
  show wpAny _ _ (callWith pos (Value.builtin "ValueError.__init__") [] (backTo pos (starEach (e :: es) X.env)) []) _ _ _
  refine PyProof.Rows.callWith_method1 (thn (ha.run pos pins _ σ H _ (I.tok _) h) fun us s1 hh => ?_) he hpl
  obtain ⟨vs, H1, I1, q1, a, C, ws, ev, hl, TC, ea, q⟩ := hh
  subst ev
  cases q1 with
  | @cons _ u0 _ ur ra rw' =>
    obtain rfl : u0 = Value.ref a := ra
    have hlen : ur.length ≤ sizeLine := by
      rw [← Paired.length rw', sizeLine_eq]
      omega
    exact oinit_ok TC I1 ea hlen fun s' J => ⟨.non, H1, J, rfl, q⟩
end

/-! ### try with several clauses, each with a name or without one -/
abbrev Suite := Addr → Value → Option Addr → TS
/-- what follows a suite whose name's slot is emptied -/
def bare (oi : Option Nat) (D : Ends) : Ends := match oi with
  | none => D
  | some i => { nx := fun σ' H' => D.nx (σ'.set i none) H', rt := D.rt, bk := fun σ' H' => D.bk (σ'.set i none) H', ct := fun σ' H' => D.ct (σ'.set i none) H' }
def named (oi : Option Nat) (a : Addr) (σ : L2.St) : L2.St := match oi with
  | none => σ
  | some i => σ.set i (some (.ref a))
def wClauses (K : PySem.W.Frag) (Wout : WX) (D : Ends) : List (Value × Option Nat × Suite) → WX
  | [] => Wout
  | (c, oi, ts) :: r => fun cls d σ H => ∃ b, PySem.W.exmOne K cls c = some b ∧ (b = true → ∀ a, H a = none → ts a cls d (bare oi D) (named oi a σ) H) ∧ (b = false → wClauses K Wout D r cls d σ H)
inductive Clauses (X : Cx) : List ExceptHandler → List (Value × Option Nat × Suite) → Prop
  | nil : Clauses X [] []
  | as {x n : Str} {c : Value} {i : Nat} {ts : Suite} {b₀ : Stmt} {suite : List Stmt} {np pos' : Pos} {hds : List ExceptHandler} {l : List (Value × Option Nat × Suite)}
      (hN : X.N.Nodup) (hi : X.N[i]? = some n) (hln : X.env.kindOf n = some .local) (hc : Names X x c)
      (hsu : ∀ (a : Addr) (oe : Obj) (cls : Value) (d : Option Addr) (pn : List (Addr × Obj)), Zc cls d oe → (∃ vs, oe.data = .fields vs) → PSs (X.suite a ((a, oe) :: pn)) (b₀ :: suite) (ts a cls d)) (r : Clauses X hds l) :
      Clauses X (.ExceptHandler (some (.Name x np)) (some n) (b₀ :: suite) pos' :: hds) ((c, some i, ts) :: l)
  | no {x : Str} {c : Value} {ts : Suite} {b₀ : Stmt} {suite : List Stmt} {np pos' : Pos} {hds : List ExceptHandler} {l : List (Value × Option Nat × Suite)}
      (hc : Names X x c)
      (hsu : ∀ (a : Addr) (oe : Obj) (cls : Value) (d : Option Addr) (pn : List (Addr × Obj)), Zc cls d oe → (∃ vs, oe.data = .fields vs) → PSs (X.suite a ((a, oe) :: pn)) (b₀ :: suite) (ts a cls d)) (r : Clauses X hds l) :
      Clauses X (.ExceptHandler (some (.Name x np)) none (b₀ :: suite) pos' :: hds) ((c, none, ts) :: l)
section
variable {X : Cx} {body : List Stmt} {h₀ : ExceptHandler} {hds : List ExceptHandler} {l : List (Value × Option Nat × Suite)} {pos : Pos} {tb : WX → TS} {Wout : WX}
theorem ps_clauses (hs : X.stack = X.env :: X.outer) (hf : X.env.frame = some X.env.locals) (tk : Takes X Wout)
    (hb : ∀ (W : WX) (pn : List (Addr × Obj)) (xe : Value → Shared → Prop), Takes (X.tr pn xe) W → PassesOwn (model X.prog X.w) X.A X.env xe → PSs (X.tr pn xe) body (tb W))
    (hh : Clauses X (h₀ :: hds) l) : PS X (.Try body (h₀ :: hds) [] [] pos) (fun D σ H => tb (wClauses X.K Wout D l) D σ H) := by
  refine ⟨fun pins s σ H D I h => ?_⟩
  have ok := I.ok
  have hfr : X.A.frames = some (X.env :: X.outer) := by rw [ok.frames, hs]
  let catch_ : Value → Shared → Prop := fun e s1 => wpAny (model X.prog X.w) X.A (noteFrame e X.env) (fun _ s2 => wpAny (model X.prog X.w) X.A (setFlight e none)
    (fun _ s3 => wpAny (model X.prog X.w) X.A (handleBy e X.env (h₀ :: hds)) (SP X pins D) X.xe s3) X.xe s2) X.xe s1
  refine wpAny_Try_except (wpAny_mono ((hb (wClauses X.K Wout D l) (X.pn ++ pins) catch_ (fun u s' xx => ?_) PassesOwn.looking).run [] s σ H D (I.toTry _) h) (fun f s1 hsp => ?_) (fun e s1 he => he))
  · obtain ⟨a, B, sI, pins', σ', H', cls, d, rfl, J', nb, up, sky, na, os, ag, w⟩ := xx
    have J : Inv X pins σ' H' sI := J'.ofTry ok
    have sky2 : Sky B (X.env :: X.outer) a (Zc cls d) X.env.locals s'.heap := by rw [← hs]; exact sky
    show wpAny (model X.prog X.w) X.A (noteFrame (.ref a) X.env) _ _ _
    refine Sky.land Zc.steady hfr hf sky2 fun h3 fl3 up3 => ?_
    have J3 : Inv X pins σ' H' { s' with heap := h3 } := J.landed nb fl3.1 (up.trans up3) os ag
    obtain ⟨oe3, vs3, he3, hz3, hd3⟩ := fl3.there
    have nfr : a ∉ frs (X.env :: X.outer) := fun hm => by
      obtain ⟨_, o', e', hnf⟩ := fl3.2.2.1.mem hm
      rw [he3] at e'; cases e'
      exact hnf _ hd3
    have nL : a ≠ X.env.locals := fun z => nfr (List.mem_filterMap.mpr ⟨X.env, List.mem_cons_self, by rw [hf, z]⟩)
    have nF : a ∉ X.fs := fun hm => by
      obtain ⟨e, he, q⟩ := List.mem_filterMap.mp hm
      exact nfr (List.mem_filterMap.mpr ⟨e, List.mem_cons_of_mem _ he, q⟩)
    have S3 := J3.suite he3 hd3 na nL nF
    have LT : PySem.W.Looks (model X.prog X.w) h3 (typeOf (.ref a)) cls := fun A Q E s k q => wpAny_typeOf_ref (k _ _ he3) (by rw [hz3.1]; exact q)
    have test : ∀ {x : Str} {np : Pos} {c : Value} {Q : Value → Shared → Prop} {E : Value → Shared → Prop}, Names X x c → Q c { s' with heap := h3 } → wpAny (model X.prog X.w) (X.A.mark (some (.ref a))) (eval (.Name x np) X.env) Q E { s' with heap := h3 } := fun {x np c Q E} hc q => by
      obtain ⟨hg, hdbg, hm | ⟨hm, hv, hnn⟩⟩ := hc
      · exact ld_glob (X := X.suite a ((a, oe3) :: (X.pn ++ pins))) S3 hg hm q hdbg
      · exact ld_blt (X := X.suite a ((a, oe3) :: (X.pn ++ pins))) S3 hg hm hv q hnn hdbg
    have go : ∀ {hds' : List ExceptHandler} {l' : List (Value × Option Nat × Suite)}, Clauses X hds' l' → wClauses X.K Wout D l' cls d σ' H' →
        wpAny (model X.prog X.w) X.A (handleBy (.ref a) X.env hds') (SP X pins D) X.xe { s' with heap := h3 } := by
      intro hds' l' hk
      induction hk with
      | nil =>
        intro w
        refine wpAny_handleBy_nil ?_
        obtain ⟨k1, k2, k3, oe, vs, T, oT, ts', he, hz, hd, h1, hr⟩ := id fl3
        unfold PySem.passOn
        refine wpAny_bind (wpAny_field he hd h1 ?_)
        rw [if_neg (show ¬ ((Value.ref T == Value.none) = true) from by simp)]
        have fin : wpAny (model X.prog X.w) X.A (setFlight (.ref a) X.env.frame) (fun _ s4 => wpAny (model X.prog X.w) X.A (throw (.ref a) : Sem Flow) (SP X pins D) X.xe s4) X.xe { s' with heap := h3 } := by
          rw [hf]
          refine HandSPX.setFlight_upZ fl3 fun h4 hh4 up4 => wpAny_throw (tk _ _ ?_)
          exact ⟨a, B, sI, pins, σ', H', cls, d, rfl, J, nb, (up.trans up3).trans up4, .inr (.inr (by rw [hs]; exact hh4)), na, os, ag, w⟩
        first
          | exact wpAny_bind (wpAny_pure (wpAny_bind fin))
          | exact wpAny_bind fin
      | @as x n c i ts b₀ suite np pos' hds2 l2 hN hi hln hc hsu r ih =>
        intro w
        obtain ⟨b, hb1, hyes, hno⟩ := w
        have LM := PySem.W.exm_one (M := model X.prog X.w) (J3.kIn) LT hb1
        refine wpAny_handleBy_cons (codeAny_handlers_test (test hc (LM.here ?_))) (by intro q; cases q)
        cases b with
        | true =>
          refine codeAny_handlers_suite_as (HandSPX.lands_againZ fl3 fun h4 fl4 up4 => ?_)
          have J4 : Inv X pins σ' H' { s' with heap := h4 } := J.landed nb fl4.1 ((up.trans up3).trans up4) os ag
          obtain ⟨oe4, vs4, he4, hz4, hd4⟩ := fl4.there
          have S4 := J4.suite he4 hd4 na nL nF
          refine store_ok (X := X.suite a ((a, oe4) :: (X.pn ++ pins))) (v := .ref a) S4 hN hi (.inl hln) rfl (fun s5 S5 => ?_) (.inr hln)
          refine wpAny_mono ((hsu a oe4 cls d (X.pn ++ pins) hz4 ⟨_, hd4⟩).run [] s5 _ H' _ S5 (hyes rfl a na)) (fun f s6 hsp => ?_) (fun _ _ z => False.elim z)
          have end_ : ∀ {σ6 : L2.St} {H6 : Hp} {Q : Shared → Prop}, Inv (X.suite a ((a, oe4) :: (X.pn ++ pins))) [] σ6 H6 s6 → (∀ s7, Inv X pins (σ6.set i none) H6 s7 → Q s7) →
              wpAny (model X.prog X.w) X.A (do bindName X.env n .none; unbindBehindTheSuite X.env n pos') (fun _ s7 => Q s7) X.xe s6 := fun {σ6 H6 Q} S6 hq => gone_ok (S6.unsuite ok) hN hi hln hq
          cases f with
          | ret u =>
            obtain ⟨v6, σ6, H6, S6, r6, q6⟩ := hsp
            exact end_ S6 fun s7 J7 => ⟨_, _, _, J7, r6, q6⟩
          | next => obtain ⟨σ6, H6, S6, q6⟩ := hsp; exact end_ S6 fun s7 J7 => ⟨_, _, J7, q6⟩
          | brk => obtain ⟨σ6, H6, S6, q6⟩ := hsp; exact end_ S6 fun s7 J7 => ⟨_, _, J7, q6⟩
          | cont => obtain ⟨σ6, H6, S6, q6⟩ := hsp; exact end_ S6 fun s7 J7 => ⟨_, _, J7, q6⟩
        | false => exact ih (hno rfl)
      | @no x c ts b₀ suite np pos' hds2 l2 hc hsu r ih =>
        intro w
        obtain ⟨b, hb1, hyes, hno⟩ := w
        have LM := PySem.W.exm_one (M := model X.prog X.w) (J3.kIn) LT hb1
        refine wpAny_handleBy_cons (codeAny_handlers_test (test hc (LM.here ?_))) (by intro q; cases q)
        cases b with
        | true =>
          refine codeAny_handlers_suite (HandSPX.lands_againZ fl3 fun h4 fl4 up4 => ?_)
          have J4 : Inv X pins σ' H' { s' with heap := h4 } := J.landed nb fl4.1 ((up.trans up3).trans up4) os ag
          obtain ⟨oe4, vs4, he4, hz4, hd4⟩ := fl4.there
          have S4 := J4.suite he4 hd4 na nL nF
          refine wpAny_mono ((hsu a oe4 cls d (X.pn ++ pins) hz4 ⟨_, hd4⟩).run [] _ _ H' _ S4 (hyes rfl a na)) (fun f s6 hsp => ?_) (fun _ _ z => False.elim z)
          cases f with
          | ret u =>
            obtain ⟨v6, σ6, H6, S6, r6, q6⟩ := hsp
            exact ⟨_, _, _, S6.unsuite ok, r6, q6⟩
          | next => obtain ⟨σ6, H6, S6, q6⟩ := hsp; exact ⟨_, _, S6.unsuite ok, q6⟩
          | brk => obtain ⟨σ6, H6, S6, q6⟩ := hsp; exact ⟨_, _, S6.unsuite ok, q6⟩
          | cont => obtain ⟨σ6, H6, S6, q6⟩ := hsp; exact ⟨_, _, S6.unsuite ok, q6⟩
        | false => exact ih (hno rfl)
    exact go hh w
  · cases f with
    | next => obtain ⟨σ', H', J', q⟩ := hsp; exact wpAny_execs_nil ⟨σ', H', J'.ofTry ok, q⟩
    | brk => obtain ⟨σ', H', J', q⟩ := hsp; exact ⟨σ', H', J'.ofTry ok, q⟩
    | cont => obtain ⟨σ', H', J', q⟩ := hsp; exact ⟨σ', H', J'.ofTry ok, q⟩
    | ret u => obtain ⟨v, σ', H', J', r, q⟩ := hsp; exact ⟨v, σ', H', J'.ofTry ok, r, q⟩
end
end KX
end

section
set_option maxRecDepth 100000
set_option maxHeartbeats 1000000
/-! KD: data on the heap: what stays, what may be read off, kinds; a table of what the programs' values are. -/
namespace L2
open PySem PySem.Spec PyProof.Rows KX

/-! ### heaps -/
theorem same_upd {H : Hp} {p : Addr} {o : HO} (h : H p = none) : Same H (upd H p o) := fun b x e => by
  rw [upd_ne (ne_of_none e h)]; exact e
theorem Same.upd {H H' : Hp} {p : Addr} {o : HO} (e : Same H H') (h : H' p = none) : Same H (L2.upd H' p o) := e.trans (same_upd h)
/-- an update of what was not there at first -/
theorem Same.set {H H' : Hp} {p : Addr} {o : HO} (e : Same H H') (h : H p = none) : Same H (L2.upd H' p o) := fun b x q => by
  rw [upd_ne (ne_of_none q h)]; exact e b x q
theorem Same.rd {H H' : Hp} {a : Addr} {u : HO} (e : Same H H') (h : Rd H a u) : Rd H' a u := by
  rcases h with h | ⟨o, h⟩
  · exact .inl (e _ _ h)
  · exact .inr ⟨o, e _ _ h⟩
theorem Same.tup {K : PySem.W.Frag} {H H' : Hp} {a : Addr} {xs : List V} (e : Same H H') (h : SqT K H a xs) : SqT K H' a xs := by
  rcases h with h | h
  · exact .inl (e.rd h)
  · exact .inr h
/-- all but b stands -/
def But (b : Addr) (H H' : Hp) : Prop := ∀ a o, a ≠ b → H a = some o → H' a = some o
theorem But.refl (b : Addr) (H : Hp) : But b H H := fun _ _ _ h => h
theorem But.of {b : Addr} {H H' : Hp} (e : Same H H') : But b H H' := fun a o _ h => e a o h
theorem But.trans {b : Addr} {H H1 H2 : Hp} (x : But b H H1) (y : But b H1 H2) : But b H H2 := fun a o n h => y a o n (x a o n h)
theorem But.upd {b : Addr} {H : Hp} {o : HO} : But b H (upd H b o) := fun a u n h => by rw [upd_ne n]; exact h
theorem But.tr {b : Addr} {H H1 H2 : Hp} (x : But b H H1) (y : Same H1 H2) : But b H H2 := x.trans (.of y)
/-- tuples stand -/
def KeepT (H H' : Hp) : Prop := ∀ a xs, Rd H a (.tup xs) → Rd H' a (.tup xs)
theorem KeepT.refl (H : Hp) : KeepT H H := fun _ _ h => h
theorem KeepT.trans {H H1 H2 : Hp} (x : KeepT H H1) (y : KeepT H1 H2) : KeepT H H2 := fun a xs h => y a xs (x a xs h)
theorem KeepT.of {H H' : Hp} (e : Same H H') : KeepT H H' := fun a xs h => e.rd h
theorem KeepT.upd {H : Hp} {b : Addr} {xs : List V} {o : HO} (h : H b = some (.lst xs)) : KeepT H (upd H b o) := fun a ys q => by
  have n : a ≠ b := by
    rintro rfl
    rcases q with q | ⟨o, q⟩ <;> (rw [h] at q; cases q)
  rcases q with q | ⟨o, q⟩
  · exact .inl (by rw [upd_ne n]; exact q)
  · exact .inr ⟨o, by rw [upd_ne n]; exact q⟩
theorem KeepT.new {H : Hp} {b : Addr} {o : HO} (h : H b = none) : KeepT H (L2.upd H b o) := .of (same_upd h)
theorem But.keepT {b : Addr} {H H' : Hp} {xs : List V} (x : But b H H') (h : H b = some (.lst xs)) : KeepT H H' := fun a ys q => by
  have n : a ≠ b := by
    rintro rfl
    rcases q with q | ⟨o, q⟩ <;> (rw [h] at q; cases q)
  rcases q with q | ⟨o, q⟩
  · exact .inl (x _ _ n q)
  · exact .inr ⟨o, x _ _ n q⟩
theorem KeepT.tup {K : PySem.W.Frag} {H H' : Hp} {a : Addr} {xs : List V} (e : KeepT H H') (h : SqT K H a xs) : SqT K H' a xs := by
  rcases h with h | h
  · exact .inl (e _ _ h)
  · exact .inr h
theorem upd_at {H : Hp} {a b : Addr} {o u : HO} (h : H b = some u) (n : H a = none) : upd H a o b = some u := by
  rw [upd_ne (ne_of_none h n)]; exact h

/-! ### data -/
mutual
theorem Dp.same {K : PySem.W.Frag} {H H' : Hp} (e : Same H H') : ∀ {v : V} {d : PyData}, Dp K H v d → Dp K H' v d
  | _, _, .non => .non
  | _, _, .bl b => .bl b
  | _, _, .int i => .int i
  | _, _, .str x => .str x
  | _, _, .lst h hs => .lst (e.seq h) (DpAll.same e hs)
  | _, _, .tup h hs => .tup (e.tup h) (DpAll.same e hs)
theorem DpAll.same {K : PySem.W.Frag} {H H' : Hp} (e : Same H H') : ∀ {vs : List V} {ds : List PyData}, DpAll K H vs ds → DpAll K H' vs ds
  | _, _, .nil => .nil
  | _, _, .cons h hs => .cons (Dp.same e h) (DpAll.same e hs)
end
mutual
/-- no list within -/
def flatD : PyData → Bool
  | .list _ => false
  | .dict _ => false
  | .tuple ds => flatAll ds
  | _ => true
def flatAll : List PyData → Bool
  | [] => true
  | d :: ds => flatD d && flatAll ds
end
mutual
theorem Dp.keep {K : PySem.W.Frag} {H H' : Hp} (e : KeepT H H') : ∀ {v : V} {d : PyData}, Dp K H v d → flatD d = true → Dp K H' v d
  | _, _, .non, _ => .non
  | _, _, .bl b, _ => .bl b
  | _, _, .int i, _ => .int i
  | _, _, .str x, _ => .str x
  | _, _, .lst h hs, f => by simp [flatD] at f
  | _, _, .tup h hs, f => .tup (e.tup h) (DpAll.keep e hs (by simpa [flatD] using f))
theorem DpAll.keep {K : PySem.W.Frag} {H H' : Hp} (e : KeepT H H') : ∀ {vs : List V} {ds : List PyData}, DpAll K H vs ds → flatAll ds = true → DpAll K H' vs ds
  | _, _, .nil, _ => .nil
  | _, _, .cons h hs, f => by
    simp only [flatAll, Bool.and_eq_true] at f
    exact .cons (Dp.keep e h f.1) (DpAll.keep e hs f.2)
end
section
variable {K : PySem.W.Frag} {H : Hp} {v : V}
theorem Dp.int_inv {i : Int} (h : Dp K H v (.int i)) : v = .int i := by cases h; rfl
theorem Dp.bl_inv {b : Bool} (h : Dp K H v (.bool b)) : v = .bl b := by cases h; rfl
theorem Dp.str_inv {x : Str} (h : Dp K H v (.str x)) : v = .str x := by cases h; rfl
theorem Dp.non_inv (h : Dp K H v .none) : v = .non := by cases h; rfl
theorem Dp.tup_inv {ds : List PyData} (h : Dp K H v (.tuple ds)) : ∃ a xs, v = .ref a ∧ SqT K H a xs ∧ DpAll K H xs ds := by
  cases h with | tup h1 h2 => exact ⟨_, _, rfl, h1, h2⟩
theorem Dp.lst_inv {ds : List PyData} (h : Dp K H v (.list ds)) : ∃ a xs, v = .ref a ∧ SqL K H a xs ∧ DpAll K H xs ds := by
  cases h with | lst h1 h2 => exact ⟨_, _, rfl, h1, h2⟩
theorem DpAll.length {K : PySem.W.Frag} {H : Hp} : ∀ {vs : List V} {ds : List PyData}, DpAll K H vs ds → vs.length = ds.length
  | _, _, .nil => rfl
  | _, _, .cons _ t => congrArg (· + 1) (DpAll.length t)
theorem DpAll.get {K : PySem.W.Frag} {H : Hp} : ∀ {vs : List V} {ds : List PyData} {i : Nat} {d : PyData}, DpAll K H vs ds → ds[i]? = some d → ∃ v, vs[i]? = some v ∧ Dp K H v d
  | _, _, _, _, .nil, h => by simp at h
  | _, _, 0, _, .cons h _, e => by simp at e; subst e; exact ⟨_, rfl, h⟩
  | _, _, i + 1, _, .cons _ t, e => by
    obtain ⟨v, h1, h2⟩ := DpAll.get (i := i) t (by simpa using e)
    exact ⟨v, by simpa using h1, h2⟩
theorem DpAll.getV {K : PySem.W.Frag} {H : Hp} : ∀ {vs : List V} {ds : List PyData} {i : Nat} {v : V}, DpAll K H vs ds → vs[i]? = some v → ∃ d, ds[i]? = some d ∧ Dp K H v d
  | _, _, _, _, .nil, h => by simp at h
  | _, _, 0, _, .cons h _, e => by simp at e; subst e; exact ⟨_, rfl, h⟩
  | _, _, i + 1, _, .cons _ t, e => by
    obtain ⟨v, h1, h2⟩ := DpAll.getV (i := i) t (by simpa using e)
    exact ⟨v, by simpa using h1, h2⟩
theorem DpAll.append {K : PySem.W.Frag} {H : Hp} : ∀ {vs ws : List V} {ds es : List PyData}, DpAll K H vs ds → DpAll K H ws es → DpAll K H (vs ++ ws) (ds ++ es)
  | _, _, _, _, .nil, h => h
  | _, _, _, _, .cons a t, h => .cons a (DpAll.append t h)
theorem DpAll.take {K : PySem.W.Frag} {H : Hp} : ∀ {vs : List V} {ds : List PyData} (n : Nat), DpAll K H vs ds → DpAll K H (vs.take n) (ds.take n)
  | _, _, 0, _ => .nil
  | _, _, _ + 1, .nil => .nil
  | _, _, n + 1, .cons a t => .cons a (DpAll.take n t)
theorem DpAll.drop {K : PySem.W.Frag} {H : Hp} : ∀ {vs : List V} {ds : List PyData} (n : Nat), DpAll K H vs ds → DpAll K H (vs.drop n) (ds.drop n)
  | _, _, 0, h => h
  | _, _, _ + 1, .nil => .nil
  | _, _, n + 1, .cons _ t => DpAll.drop n t
theorem DpAll.ints {K : PySem.W.Frag} {H : Hp} : ∀ {ns : List Int}, DpAll K H (ns.map V.int) (ns.map PyData.int)
  | [] => .nil
  | n :: ns => .cons (.int n) DpAll.ints
theorem DpAll.ints_inv {K : PySem.W.Frag} {H : Hp} : ∀ {vs : List V} {ns : List Int}, DpAll K H vs (ns.map PyData.int) → vs = ns.map V.int
  | _, [], h => by cases h; rfl
  | _, n :: ns, h => by
    cases h with
    | cons a t => rw [a.int_inv, DpAll.ints_inv t]; rfl
theorem flatAll_map {α : Type} {f : α → PyData} (h : ∀ x, flatD (f x) = true) : ∀ l : List α, flatAll (l.map f) = true
  | [] => rfl
  | x :: l => by show (flatD (f x) && flatAll (l.map f)) = true; rw [h x, flatAll_map h l]; rfl
end

/-! ### an optional int -/
def eO : Option Int → PyData
  | none => .none
  | some i => .int i
def vO : Option Int → V
  | none => .non
  | some i => .int i
theorem dp_vO {K : PySem.W.Frag} {H : Hp} (o : Option Int) : Dp K H (vO o) (eO o) := by cases o <;> constructor
theorem Dp.o_inv {K : PySem.W.Frag} {H : Hp} {v : V} {o : Option Int} (h : Dp K H v (eO o)) : v = vO o := by cases o <;> cases h <;> rfl
theorem flat_eO (o : Option Int) : flatD (eO o) = true := by cases o <;> rfl
theorem DpAll.os {K : PySem.W.Frag} {H : Hp} : ∀ {ns : List (Option Int)}, DpAll K H (ns.map vO) (ns.map eO)
  | [] => .nil
  | n :: ns => .cons (dp_vO n) DpAll.os
theorem DpAll.os_inv {K : PySem.W.Frag} {H : Hp} : ∀ {vs : List V} {ns : List (Option Int)}, DpAll K H vs (ns.map eO) → vs = ns.map vO
  | _, [], h => by cases h; rfl
  | _, n :: ns, h => by
    cases h with
    | cons a t => rw [a.o_inv, DpAll.os_inv t]; rfl
theorem vO_non (o : Option Int) : decide (vO o = .non) = o.isNone := by cases o <;> rfl

/-! ### isinstance -/
def tyD : PyData → String
  | .none => "NoneType"
  | .bool _ => "bool"
  | .int _ => "int"
  | .str _ => "str"
  | .list _ => "list"
  | .tuple _ => "tuple"
  | .dict _ => "dict"
def isIntD : PyData → Bool
  | .int _ => true
  | .bool _ => true
  | _ => false
def isBl : PyData → Bool
  | .bool _ => true
  | _ => false
def isTup : PyData → Bool
  | .tuple _ => true
  | _ => false
def isLst : PyData → Bool
  | .list _ => true
  | _ => false
def isStr : PyData → Bool
  | .str _ => true
  | _ => false
theorem kit_int : ∀ d : PyData, kitB (tyD d) "int" = some (isIntD d)
  | .none => (by decide +kernel : kitB "NoneType" "int" = some false)
  | .bool _ => (by decide +kernel : kitB "bool" "int" = some true)
  | .int _ => (by decide +kernel : kitB "int" "int" = some true)
  | .str _ => (by decide +kernel : kitB "str" "int" = some false)
  | .list _ => (by decide +kernel : kitB "list" "int" = some false)
  | .tuple _ => (by decide +kernel : kitB "tuple" "int" = some false)
  | .dict _ => (by decide +kernel : kitB "dict" "int" = some false)
theorem kit_bool : ∀ d : PyData, kitB (tyD d) "bool" = some (isBl d)
  | .none => (by decide +kernel : kitB "NoneType" "bool" = some false)
  | .bool _ => (by decide +kernel : kitB "bool" "bool" = some true)
  | .int _ => (by decide +kernel : kitB "int" "bool" = some false)
  | .str _ => (by decide +kernel : kitB "str" "bool" = some false)
  | .list _ => (by decide +kernel : kitB "list" "bool" = some false)
  | .tuple _ => (by decide +kernel : kitB "tuple" "bool" = some false)
  | .dict _ => (by decide +kernel : kitB "dict" "bool" = some false)
theorem kit_tuple : ∀ d : PyData, kitB (tyD d) "tuple" = some (isTup d)
  | .none => (by decide +kernel : kitB "NoneType" "tuple" = some false)
  | .bool _ => (by decide +kernel : kitB "bool" "tuple" = some false)
  | .int _ => (by decide +kernel : kitB "int" "tuple" = some false)
  | .str _ => (by decide +kernel : kitB "str" "tuple" = some false)
  | .list _ => (by decide +kernel : kitB "list" "tuple" = some false)
  | .tuple _ => (by decide +kernel : kitB "tuple" "tuple" = some true)
  | .dict _ => (by decide +kernel : kitB "dict" "tuple" = some false)
theorem kit_list : ∀ d : PyData, kitB (tyD d) "list" = some (isLst d)
  | .none => (by decide +kernel : kitB "NoneType" "list" = some false)
  | .bool _ => (by decide +kernel : kitB "bool" "list" = some false)
  | .int _ => (by decide +kernel : kitB "int" "list" = some false)
  | .str _ => (by decide +kernel : kitB "str" "list" = some false)
  | .list _ => (by decide +kernel : kitB "list" "list" = some true)
  | .tuple _ => (by decide +kernel : kitB "tuple" "list" = some false)
  | .dict _ => (by decide +kernel : kitB "dict" "list" = some false)
theorem kit_str : ∀ d : PyData, kitB (tyD d) "str" = some (isStr d)
  | .none => (by decide +kernel : kitB "NoneType" "str" = some false)
  | .bool _ => (by decide +kernel : kitB "bool" "str" = some false)
  | .int _ => (by decide +kernel : kitB "int" "str" = some false)
  | .str _ => (by decide +kernel : kitB "str" "str" = some true)
  | .list _ => (by decide +kernel : kitB "list" "str" = some false)
  | .tuple _ => (by decide +kernel : kitB "tuple" "str" = some false)
  | .dict _ => (by decide +kernel : kitB "dict" "str" = some false)
section
variable {K : PySem.W.Frag} {H : Hp} {v : V} {d : PyData} {Q : VK}
theorem Dp.ty (h : Dp K H v d) : TyX K H v (.type (tyD d)) := by
  cases h with
  | non => exact .base .non
  | bl b => exact .base (.bl b)
  | int i => exact .base (.int i)
  | str x => exact .base (.str x)
  | lst h _ =>
    rcases h with (h | ⟨o, h⟩) | ⟨o, its, n, k, c, _⟩
    · exact .base (.lst h)
    · exact .base (.frz h)
    · exact .kList k c
  | tup h _ =>
    rcases h with (h | ⟨o, h⟩) | ⟨o, its, n, k, c, _⟩
    · exact .base (.tup h)
    · exact .fTuple h
    · exact .kTuple k c
theorem isi_int (h : Dp K H v d) (q : Q (.bl (isIntD d)) H) : rIsi K [v, .ty "int"] H Q := ⟨_, _, _, _, _, rfl, .ty _, h.ty, kit_ty (kit_int d), q⟩
theorem isi_bool (h : Dp K H v d) (q : Q (.bl (isBl d)) H) : rIsi K [v, .ty "bool"] H Q := ⟨_, _, _, _, _, rfl, .ty _, h.ty, kit_ty (kit_bool d), q⟩
theorem isi_tuple (h : Dp K H v d) (q : Q (.bl (isTup d)) H) : rIsi K [v, .ty "tuple"] H Q := ⟨_, _, _, _, _, rfl, .ty _, h.ty, kit_ty (kit_tuple d), q⟩
theorem isi_list (h : Dp K H v d) (q : Q (.bl (isLst d)) H) : rIsi K [v, .ty "list"] H Q := ⟨_, _, _, _, _, rfl, .ty _, h.ty, kit_ty (kit_list d), q⟩
theorem isi_str (h : Dp K H v d) (q : Q (.bl (isStr d)) H) : rIsi K [v, .ty "str"] H Q := ⟨_, _, _, _, _, rfl, .ty _, h.ty, kit_ty (kit_str d), q⟩
end
end L2
end

section
set_option maxRecDepth 100000
set_option maxHeartbeats 2000000
/-! KX3: enumerate over a tuple; a comprehension that makes data; loops in short. -/
namespace KX
open PySem PySem.Spec PyProof.Rows L2
open Sem (wp)

/-! ### enumerate(v), v whatever begins -/
theorem meets_enum_one {v : Value} {o : Obj} {H : Heap → Prop} (B : Begins v o H) :
    Meets (Builtin.«enumerate.__new__» ⟨[.type "enumerate", v], []⟩) (fun _ R s => H s.heap ∧
      R (.ok (.ret (.ref (s.heap.push o).objs.size))) { s with heap := (s.heap.push o).push { cls := .type "enumerate", data := .fields #[.none, .bool false, .ref s.heap.objs.size, rawInt 0, .none, .none] } }) :=
  .of_wp fun prog w A R s h => by
    obtain ⟨hp, g, d, tk, os⟩ := s
    obtain ⟨h1, h⟩ := h
    have hsub := sub_enumerate
    have q1 : ∀ {A' : Around} {E : Value → Shared → Prop} {Q : Value → Shared → Prop}, Q (.ref hp.objs.size) ⟨hp.push o, g, d, tk, os⟩ → wpAny (model prog w) A' (pyIter v) Q E ⟨hp, g, d, tk, os⟩ :=
      fun q => B.iter prog w _ _ ⟨hp, g, d, tk, os⟩ _ h1 q
    wp_walk using q1
    refine wpAny_stack_any fun st => wpAny_pure ?_
    split
    · rename_i c _ _ _ _ _
      cases (c == Value.type "enumerate") <;> (wp_walk using q1; exact ⟨_, rfl, h⟩)
    · wp_walk using q1
      exact ⟨_, rfl, h⟩
section
variable {prog : Program} {w : World} {A : Around} {E : Value → Shared → Prop} {s : Shared}
theorem call_enum_one {v : Value} {o : Obj} {H : Heap → Prop} {Q : Value → Shared → Prop} (B : Begins v o H) (h1 : H s.heap)
    (h : ∀ h', IsEnum h' (s.heap.objs.size + 1) s.heap.objs.size 0 .none → h'.get? s.heap.objs.size = some o →
      (∀ b o, s.heap.get? b = some o → h'.get? b = some o) → Q (.ref (s.heap.objs.size + 1)) { s with heap := h' }) :
    wpAny (model prog w) A (call (.type "enumerate") [v]) Q E s := by
  refine callType_new F.called_enumerate (by decide) (F.typeCall_enumerate_1 _) (F.newCall_enumerate_1 _) (fun obj => F.args_object_init_2 obj _) F.entry_enumerate_new
    (meets_enum_one B) ⟨h1, ?_⟩
  have hz : (s.heap.push o).objs.size = s.heap.objs.size + 1 := Heap.size_push ..
  show _ ∧ _
  rw [hz]
  have he : IsEnum ((s.heap.push o).push { cls := .type "enumerate", data := .fields #[.none, .bool false, .ref s.heap.objs.size, rawInt 0, .none, .none] }) (s.heap.objs.size + 1) s.heap.objs.size 0 .none := by
    have := Heap.get?_push_size (s.heap.push o) (o := { cls := .type "enumerate", data := .fields #[.none, .bool false, .ref s.heap.objs.size, rawInt 0, .none, .none] }) rfl
    rw [hz] at this; exact this
  exact ⟨⟨_, he, rfl⟩, h _ he (Heap.get?_push_of_some _ (Heap.get?_push_size _ B.free)) fun b o x => Heap.get?_push_of_some _ (Heap.get?_push_of_some _ x)⟩
end
/-- the tuple at a, each item in a new pair -/
def Itet (K : PySem.W.Frag) (a : Addr) : It :=
  ⟨fun i H => ∃ (xs : List V) (x : V), SqT K H a xs ∧ xs[i]? = some x, fun i H v H' => ∃ T x, v = .ref T ∧ H T = none ∧ H' = upd H T (.tup [.int (i : Nat), x]) ∧ ∀ xs, SqT K H a xs → xs[i]? = some x, fun i H => ∃ xs : List V, SqT K H a xs ∧ xs.length = i⟩
theorem tup_ne {h : Heap} {a b : Addr} {its : Array Value} {o : Obj} {n : String} (ha : IsTup h a its) (hb : h.get? b = some o) (hc : o.cls = .type n) (hn : n ≠ "tuple") : a ≠ b := by
  rintro rfl
  obtain ⟨o', e, c, _⟩ := ha
  rw [hb] at e; cases e
  rw [hc] at c
  injection c with c
  exact hn c
theorem turn_enumT {P : Program} {w : World} {K : PySem.W.Frag} {elts : List Expr} {kk : Nat} {tpos : Pos} (a e it : Addr) :
    Turn P w K (.Tuple elts kk tpos) (Itet K a) [e, it] e (fun i h => (∃ old, IsEnum h e it ((i : Nat) : Int) old) ∧ h.IsTupleIter it a i ∧ e ≠ it) where
  mem := by simp
  obj := fun i h st b hb => by
    obtain ⟨⟨old, he⟩, ⟨o, ho, hc, hd⟩, _⟩ := st
    have e' : b = e ∨ b = it := by simpa using hb
    rcases e' with z | z
    · rw [z]; exact ⟨_, he, fun v q => nomatch q⟩
    · rw [z]; exact ⟨o, ho, fun v q => by rw [hd] at q; cases q⟩
  keep := fun i h h' st k => let ⟨⟨old, he⟩, hi, hne⟩ := st; ⟨⟨old, k e (by simp) _ he⟩, hi.at fun o q => k it (by simp) o q, hne⟩
  item := by
    intro X hP hw hK hc i pins s σ H E I hf st hg
    subst hP hw hK
    obtain ⟨⟨old, he⟩, hit, hne⟩ := st
    obtain ⟨xs, x, hq, hx⟩ := hg
    obtain ⟨its, rv, p, hz⟩ := I.tuple hq
    obtain ⟨u, hu, ru⟩ := rv.get hx
    have hel : e < s.heap.objs.size := Heap.lt_size he
    have hil : it < s.heap.objs.size := by obtain ⟨_, q, _⟩ := hit; exact Heap.lt_size q
    have nai : a ≠ it := by obtain ⟨o, q, c, _⟩ := id hit; exact tup_ne p q c (by decide)
    have nae : a ≠ e := tup_ne p he rfl (by decide)
    have hin : i < its.toArray.size := by
      have := (List.getElem?_eq_some_iff.mp hu).1
      simpa using this
    refine wpAny_pyNext_enum_itemD (Draws.tuple (A := X.A.in1) (I.ok.hd hc) it a nai its.toArray) he ⟨hit, p⟩ hin hne (by simp [hne, Ne.symm nae]) fun y h' tk hy ho hit' hT hsz hk => ?_
    have ey : y = u := by
      have hy' : its.toArray[i]? = some y := hy
      have : its[i]? = some y := by simpa using hy'
      rw [hu] at this
      exact (Option.some.inj this).symm
    subst ey
    refine ⟨_, rfl, wpAny_letOwnedTupleGo_enum (s := { s with heap := h', toks := tk + 1 }) ho fun h'' he' sb => ?_⟩
    have hT2 : h''.get? s.heap.objs.size = some { cls := .type "tuple", data := .seq #[.int i tk, y] } := (sb.2 _ (Nat.ne_of_gt hel)).trans hT
    have new : ObjOk X.prog X.w (upd H s.heap.objs.size (.tup [.int (i : Nat), x])) h'' s.heap.objs.size (.tup [.int (i : Nat), x]) :=
      ⟨by show 2 ≤ sizeLine; decide, [.int i tk, y], .cons ⟨_, rfl⟩ (.cons ru .nil), ⟨_, hT2, rfl, _, rfl⟩⟩
    have I1 : Inv X pins σ (upd H s.heap.objs.size (.tup [.int (i : Nat), x])) { s with heap := h'', toks := tk + 1 } :=
      I.turnedNew (ch := [e, it]) (fun b ob hb q => (sb.2 b (fun z => hb (by simp [z]))).trans (hk b ob (fun z => hb (by simp [z])) (fun z => hb (by simp [z])) q)) hf (Nat.le_refl _) new
    refine ⟨.ref s.heap.objs.size, _, I1, rfl, ⟨_, x, rfl, I.hok.fresh (Nat.le_refl _), rfl, fun ys hy => by rw [I.tuple_inj hy hq]; exact hx⟩, ⟨⟨y, ?_⟩, hit'.1.at fun o q => (sb.2 it (Ne.symm hne)).trans q, hne⟩, fun b hb => ?_⟩
    · have e1 : ((i + 1 : Nat) : Int) = (i : Int) + 1 := by omega
      rw [e1]; exact he'
    · have hb' : b < s.heap.objs.size := by
        have e' : b = e ∨ b = it := by simpa using hb
        rcases e' with z | z
        · rw [z]; exact hel
        · rw [z]; exact hil
      rw [upd_ne (Nat.ne_of_lt hb')]
      exact (hf b hb).1
  done := by
    intro X hP hw hK hc i pins s σ H E I hf st hg
    subst hP hw hK
    obtain ⟨⟨old, he⟩, hit, hne⟩ := st
    obtain ⟨xs, hq, hx⟩ := hg
    obtain ⟨its, rv, p, hz⟩ := I.tuple hq
    obtain ⟨f0, f1, f2, f3, f4, f5⟩ := hf it (by simp)
    have nai : a ≠ it := by obtain ⟨o, q, c, _⟩ := id hit; exact tup_ne p q c (by decide)
    have hl := rv.length
    have ei : its.toArray.size = i := by rw [List.size_toArray]; omega
    refine wpAny_pyNext_enum_endD (Draws.tuple (A := X.A.in1) (I.ok.hd hc) it a nai its.toArray) he ?_ fun h' eb => ⟨rfl, I.turned (t' := s.toks) (fun b o hb q => eb b o hb q) f0 f1 f3 f4 f5⟩
    rw [ei]
    exact ⟨hit, p⟩
  self := fun A i s Q E st h => let ⟨⟨_, he⟩, _⟩ := st; wpAny_pyIter_enum he h
def iEnumT (K : PySem.W.Frag) (ta : TA) : TI := fun σ H R => ta σ H fun vs H1 => ∃ a xs, vs = [.ref a] ∧ SqT K H1 a xs ∧ R (Itet K a) H1
theorem pi_enumT {X : Cx} {e : Expr} {ta : TA} {p pos tpos : Pos} {elts : List Expr} {kk : Nat} (hg : Gl X "enumerate") (hm : X.mg "enumerate" = none) (ha : PA X [e] ta) (hs : starEach [e] X.env = [(false, eval e X.env)] := by rfl) :
    PI X (.Tuple elts kk tpos) (.Call (.Name "enumerate" p) [e] [] pos) (iEnumT X.K ta) := by
  refine ⟨fun pins s σ H R I h => ?_⟩
  refine Call_ (ld_blt I hg hm boot_enumerate (PyProof.Rows.callWith_type1 (thn (ha.run pos pins s σ H _ I h) fun us s1 hh => ?_) hs rfl))
  obtain ⟨vs, H1, I1, r1, a, xs, ex, hq, q⟩ := hh
  subst ex
  obtain ⟨u, rfl, r⟩ := vals1 r1
  obtain rfl : u = Value.ref a := r
  obtain ⟨its, rv, p', hz⟩ := I1.tuple hq
  refine call_enum_one (begins_tuple a its.toArray) p' fun h' he hit hk => wpAny_pyIter_enum he ?_
  have I2 : Inv X pins σ H1 { s1 with heap := h' } := I1.kept (t' := s1.toks) hk
  refine ⟨s1.heap.objs.size + 1, [s1.heap.objs.size + 1, s1.heap.objs.size], _, _, H1, rfl, I2, turn_enumT a (s1.heap.objs.size + 1) s1.heap.objs.size, ⟨⟨.none, he⟩, ⟨_, hit, rfl, rfl⟩, Nat.succ_ne_self _⟩, fun b hb => ?_, q⟩
  have e' : b = s1.heap.objs.size + 1 ∨ b = s1.heap.objs.size := by simpa using hb
  have hle : s1.heap.objs.size ≤ b := by
    rcases e' with z | z
    · rw [z]; exact Nat.le_add_right _ _
    · rw [z]; exact Nat.le_refl _
  exact I1.fpOk hle (I1.hok.fresh hle)
theorem walk_enumT {K : PySem.W.Frag} {a : Addr} {xs : List V} : Walk (Itet K a) xs.length (fun H => SqT K H a xs) (YPair (fun i => some (.int (i : Nat))) (fun i => xs[i]?)) := by
  refine ⟨fun i _ hi q => ⟨xs, xs[i], q, by simp [hi]⟩, fun _ q => ⟨xs, q, rfl⟩, fun i H v H' _ q y => ?_⟩
  obtain ⟨T, x, h1, h2, h3, h4⟩ := y
  exact ⟨T, .int (i : Nat), x, h1, h2, h3, rfl, h4 xs q⟩

/-! ### a comprehension that makes immutable data -/
theorem comp_dp {K : PySem.W.Frag} {J : It} {n : Nat} {G : Hp → Prop} {Y : Nat → Hp → V → Hp → Prop} (w : Walk J n G Y) {g : TG} {tt : TT} {te : TE} {vs : List Nat} {σ : L2.St} {H1 : Hp} {Q : VK}
    (f : Nat → Option PyData) (hn : n ≤ 100000) (hf : ∀ i d, i < n → f i = some d → flatD d = true) (hY : ∀ i H x H', i < n → Y i H x H' → Same H H') (hG : ∀ H, Same H1 H → G H)
    (hs : ∀ i x H H', i < n → Same H1 H → Y i H x H' → ∀ (Qy : VK) (Qn : Hp → Prop), (∀ d, f i = some d → ∀ y H4, Same H' H4 → Dp K H4 y d → Qy y H4) → (f i = none → ∀ H4, Same H' H4 → Qn H4) →
      g x (wipe σ vs) H' fun σ2 H2 => wipe σ2 vs = wipe σ vs ∧ tt σ2 H2 fun b H3 => if b = true then te σ2 H3 Qy else Qn H3)
    (hq : ∀ p xs H', Same H1 H' → H1 p = none → H' p = some (.lst xs) → DpAll K H' xs ((List.range n).filterMap f) → Q (.ref p) H') :
    ∀ D, H1 D = none → ∃ W : Nat → Nat → Hp → Prop, (∃ m, W 0 m (upd H1 D (.lst []))) ∧ ∀ i m H, W i m H →
      (J.stop i H ∧ Q (.ref D) H) ∨ (J.go i H ∧ ∃ Nx : Hp → Prop, (∀ H', Nx H' → ∃ m', m' < m ∧ W (i + 1) m' H') ∧ ∀ x H', J.yld i H x H' → g x (wipe σ vs) H' fun σ2 H2 => wipe σ2 vs = wipe σ vs ∧ tt σ2 H2 fun b H3 =>
        if b = true then te σ2 H3 fun y H4 => ∃ acc, H4 D = some (.lst acc) ∧ acc.length < sizeLine ∧ Nx (upd H4 D (.lst (acc ++ [y]))) else Nx H3) := by
  intro D hD
  have hflat : ∀ k, k ≤ n → flatAll ((List.range k).filterMap f) = true := by
    intro k
    induction k with
    | zero => intro _; rfl
    | succ k ih =>
      intro hk
      rw [List.range_succ, List.filterMap_append]
      have app : ∀ l m : List PyData, flatAll (l ++ m) = (flatAll l && flatAll m) := fun l m => by
        induction l with
        | nil => simp [flatAll]
        | cons a l ih => simp [flatAll, ih, Bool.and_assoc]
      rw [app, ih (by omega)]
      cases e : f k with
      | none => simp [e, flatAll]
      | some d => simp [e, flatAll, hf k d (by omega) e]
  have hlen : ∀ k, k ≤ n → ((List.range k).filterMap f).length ≤ k := fun k _ => by
    have := List.length_filterMap_le f (List.range k)
    simpa using this
  refine lc_it w (fun i H => Same H1 H ∧ ∃ xs, H D = some (.lst xs) ∧ DpAll K H xs ((List.range i).filterMap f)) ⟨same_upd hD, [], upd_same, .nil⟩ (fun i H _ p => hG H p.1) ?_ (fun H p => ?_)
  · rintro i x H H' hi ⟨sm, xs, hx, hd⟩ y
    have sy := hY i H x H' hi y
    have bound : xs.length < sizeLine := by
      have h1 := hd.length
      have h2 := hlen i (by omega)
      have h3 : 100001 ≤ sizeLine := by decide
      omega
    refine hs i x H H' hi sm y _ _ (fun d e y4 H4 s4 dy => ?_) (fun e H4 s4 => ?_)
    · have hx4 : H4 D = some (.lst xs) := s4 _ _ (sy _ _ hx)
      refine ⟨xs, hx4, bound, ?_, xs ++ [y4], upd_same, ?_⟩
      · intro b o q
        rw [upd_ne (ne_of_none q hD)]
        exact s4 _ _ (sy _ _ (sm _ _ q))
      · rw [List.range_succ, List.filterMap_append]
        have kt : KeepT H4 (upd H4 D (.lst (xs ++ [y4]))) := KeepT.upd hx4
        have h1 : DpAll K H4 xs ((List.range i).filterMap f) := (hd.same sy).same s4
        refine (h1.keep kt (hflat i (by omega))).append ?_
        simp only [List.filterMap_cons, List.filterMap_nil, e]
        exact .cons (dy.keep kt (hf i d hi e)) .nil
    · refine ⟨sm.trans (sy.trans s4), xs, s4 _ _ (sy _ _ hx), ?_⟩
      rw [List.range_succ, List.filterMap_append]
      simp only [List.filterMap_cons, List.filterMap_nil, e, List.append_nil]
      exact (hd.same sy).same s4
  · obtain ⟨sm, xs, hx, hd⟩ := p
    exact hq D xs H sm hD hx hd
theorem yat_same {xs : List V} {i : Nat} {H : Hp} {x : V} {H' : Hp} (h : YAt xs i H x H') : Same H H' := by
  rw [h.1]; exact Same.refl _
theorem yfn_same {f : Nat → V} {i : Nat} {H : Hp} {x : V} {H' : Hp} (h : YFn f i H x H') : Same H H' := by
  rw [h.1]; exact Same.refl _
theorem ypair_same {f g : Nat → Option V} {i : Nat} {H : Hp} {x : V} {H' : Hp} (h : YPair f g i H x H') : Same H H' := by
  obtain ⟨T, _, _, _, n, e, _⟩ := h
  rw [e]; exact same_upd n
end KX
end

section
set_option maxRecDepth 100000
set_option maxHeartbeats 2000000
/-! KX4: comprehensions by their source, in short. -/
namespace KX
open PySem PySem.Spec PyProof.Rows L2
section
variable {K : PySem.W.Frag} {g : TG} {tt : TT} {te : TE} {vs : List Nat} {σ : L2.St} {H1 : Hp} {Q : VK}
/-- what a turn is to show: y is kept as data d, or the turn is left out -/
abbrev Turned (K : PySem.W.Frag) (g : TG) (tt : TT) (te : TE) (vs : List Nat) (σ : L2.St) (x : V) (H : Hp) (o : Option PyData) : Prop :=
  ∀ (Qy : VK) (Qn : Hp → Prop), (∀ d, o = some d → ∀ y H4, Same H H4 → Dp K H4 y d → Qy y H4) → (o = none → ∀ H4, Same H H4 → Qn H4) →
    g x (wipe σ vs) H fun σ2 H2 => wipe σ2 vs = wipe σ vs ∧ tt σ2 H2 fun b H3 => if b = true then te σ2 H3 Qy else Qn H3
abbrev LcOver (J : It) (g : TG) (tt : TT) (te : TE) (vs : List Nat) (σ : L2.St) (H1 : Hp) (Q : VK) : Prop :=
  ∀ D, H1 D = none → ∃ W : Nat → Nat → Hp → Prop, (∃ m, W 0 m (upd H1 D (.lst []))) ∧ ∀ i m H, W i m H →
      (J.stop i H ∧ Q (.ref D) H) ∨ (J.go i H ∧ ∃ Nx : Hp → Prop, (∀ H', Nx H' → ∃ m', m' < m ∧ W (i + 1) m' H') ∧ ∀ x H', J.yld i H x H' → g x (wipe σ vs) H' fun σ2 H2 => wipe σ2 vs = wipe σ vs ∧ tt σ2 H2 fun b H3 =>
        if b = true then te σ2 H3 fun y H4 => ∃ acc, H4 D = some (.lst acc) ∧ acc.length < sizeLine ∧ Nx (upd H4 D (.lst (acc ++ [y]))) else Nx H3)
theorem lc_def {wi : TI} {H : Hp} (h : wi σ H fun J H1 => LcOver J g tt te vs σ H1 Q) : tLc wi g tt te vs σ H Q := h
theorem comp_rng {lo : Int} {n : Nat} (f : Nat → Option PyData) (hn : n ≤ 100000) (hf : ∀ i d, i < n → f i = some d → flatD d = true)
    (hs : ∀ i H, i < n → Same H1 H → Turned K g tt te vs σ (.int (lo + i)) H (f i))
    (hq : ∀ p xs H', Same H1 H' → H1 p = none → H' p = some (.lst xs) → DpAll K H' xs ((List.range n).filterMap f) → Q (.ref p) H') : LcOver (Itr lo n) g tt te vs σ H1 Q :=
  comp_dp walk_range f hn hf (fun i H x H' _ y => yfn_same y) (fun _ _ => trivial) (fun i x H H' hi s y => by obtain ⟨rfl, rfl⟩ := y; exact hs i _ hi s) hq
theorem comp_lst {a : Addr} {xs : List V} (hS : SqL K H1 a xs) (f : Nat → Option PyData) (hn : xs.length ≤ 100000) (hf : ∀ i d, i < xs.length → f i = some d → flatD d = true)
    (hs : ∀ i x H, xs[i]? = some x → Same H1 H → Turned K g tt te vs σ x H (f i))
    (hq : ∀ p ys H', Same H1 H' → H1 p = none → H' p = some (.lst ys) → DpAll K H' ys ((List.range xs.length).filterMap f) → Q (.ref p) H') : LcOver (Itl K a) g tt te vs σ H1 Q :=
  comp_dp walk_list f hn hf (fun i H x H' _ y => yat_same y) (fun _ s => s.seq hS) (fun i x H H' hi s y => by obtain ⟨rfl, e⟩ := y; exact hs i x _ e s) hq
theorem comp_tup {a : Addr} {xs : List V} (hS : SqT K H1 a xs) (f : Nat → Option PyData) (hn : xs.length ≤ 100000) (hf : ∀ i d, i < xs.length → f i = some d → flatD d = true)
    (hs : ∀ i x H, xs[i]? = some x → Same H1 H → Turned K g tt te vs σ x H (f i))
    (hq : ∀ p ys H', Same H1 H' → H1 p = none → H' p = some (.lst ys) → DpAll K H' ys ((List.range xs.length).filterMap f) → Q (.ref p) H') : LcOver (Itt K a) g tt te vs σ H1 Q :=
  comp_dp walk_tup f hn hf (fun i H x H' _ y => yat_same y) (fun _ s => s.tup hS) (fun i x H H' hi s y => by obtain ⟨rfl, e⟩ := y; exact hs i x _ e s) hq
/-- an item kept -/
theorem keep_ {x : V} {H : Hp} {d : PyData} {y : V} {Qy : VK} {H4 : Hp} (h1 : ∀ d', some d = some d' → ∀ y H4, Same H H4 → Dp K H4 y d' → Qy y H4) (s : Same H H4) (hy : Dp K H4 y d) : Qy y H4 := h1 d rfl y H4 s hy
end
/-- a comprehension that makes new lists -/
theorem comp_new {g : TG} {tt : TT} {te : TE} {vs : List Nat} {σ : L2.St} {H1 : Hp} {Q : VK} {lo : Int} {n : Nat} (c : Nat → List V) (hn : n ≤ 100000)
    (hs : ∀ i H, i < n → Same H1 H → ∀ (Qy : VK) (Qn : Hp → Prop), (∀ q H4, Same H H4 → H q = none → H4 q = some (.lst (c i)) → Qy (.ref q) H4) →
      g (.int (lo + i)) (wipe σ vs) H fun σ2 H2 => wipe σ2 vs = wipe σ vs ∧ tt σ2 H2 fun b H3 => if b = true then te σ2 H3 Qy else Qn H3)
    (hq : ∀ (p : Addr) (ps : List Addr) H', Same H1 H' → H1 p = none → H' p = some (.lst (ps.map V.ref)) → ps.length = n → ps.Nodup → (∀ q ∈ ps, H1 q = none ∧ q ≠ p) → (∀ i q, ps[i]? = some q → H' q = some (.lst (c i))) → Q (.ref p) H') :
    LcOver (Itr lo n) g tt te vs σ H1 Q := by
  intro D hD
  refine lc_it walk_range (fun i H => Same H1 H ∧ ∃ ps : List Addr, H D = some (.lst (ps.map V.ref)) ∧ ps.length = i ∧ ps.Nodup ∧ (∀ q ∈ ps, H1 q = none ∧ q ≠ D) ∧ ∀ k q, ps[k]? = some q → H q = some (.lst (c k)))
    ⟨same_upd hD, [], upd_same, rfl, List.nodup_nil, by simp, by simp⟩ (fun _ _ _ _ => trivial) ?_ (fun H p => ?_)
  · rintro i x H H' hi ⟨sm, ps, hx, hl, hnd, hfr, hc⟩ ⟨rfl, rfl⟩
    refine hs i H' hi sm _ _ fun q H4 s4 hq4 e4 => ?_
    have hx4 := s4 _ _ hx
    have nD : q ≠ D := fun z => by rw [z, hx] at hq4; cases hq4
    have np : q ∉ ps := fun z => by
      obtain ⟨k, hk⟩ := List.mem_iff_getElem?.mp z
      have := hc k q hk
      rw [hq4] at this; cases this
    refine ⟨ps.map V.ref, hx4, ?_, fun b o z => ?_, ps ++ [q], ?_, by simp [hl], ?_, ?_, ?_⟩
    · have h3 : 100001 ≤ sizeLine := by decide
      rw [List.length_map]; omega
    · rw [upd_ne (ne_of_none z hD)]; exact s4 _ _ (sm _ _ z)
    · rw [upd_same, List.map_append]; rfl
    · rw [List.nodup_append]
      refine ⟨hnd, by simp, fun a ha b hb => ?_⟩
      have : b = q := by simpa using hb
      rw [this]; exact fun z => np (z ▸ ha)
    · intro a ha
      rcases List.mem_append.mp ha with ha | ha
      · exact hfr a ha
      · have : a = q := by simpa using ha
        rw [this]
        exact ⟨sm.free hq4, nD⟩
    · intro k a hk
      rw [List.getElem?_append] at hk
      split at hk
      · have hm : a ∈ ps := List.mem_of_getElem? hk
        rw [upd_ne (hfr a hm).2]
        exact s4 _ _ (hc k a hk)
      · have hk0 : k - ps.length = 0 := by
          have := (List.getElem?_eq_some_iff.mp hk).1
          simp at this; omega
        rw [hk0] at hk
        have ea : a = q := by simpa using hk.symm
        have ek : k = i := by omega
        rw [ea, upd_ne nD, ek]
        exact e4
  · obtain ⟨sm, ps, hx, hl, hnd, hfr, hc⟩ := p
    exact hq D ps H sm hD hx hl hnd hfr hc
theorem fm_some {α : Type} (g : Nat → α) (n : Nat) : (List.range n).filterMap (fun i => some (g i)) = (List.range n).map g := by
  induction n with
  | zero => rfl
  | succ n ih => rw [List.range_succ, List.filterMap_append, List.map_append, ih]; rfl
/-- one item of a list each, some left out -/
theorem fm_list {α β : Type} (l : List α) (p : α → Option β) : (List.range l.length).filterMap (fun i => (l[i]?).bind p) = l.filterMap p := by
  induction l with
  | nil => rfl
  | cons a l ih =>
    rw [List.length_cons, List.range_succ_eq_map, List.filterMap_cons, List.filterMap_map, List.filterMap_cons]
    have : (List.range l.length).filterMap ((fun i => ((a :: l)[i]?).bind p) ∘ Nat.succ) = l.filterMap p := by
      rw [← ih]; congr 1
    rw [this]
    rfl
theorem fm_map {α β : Type} (l : List α) (g : α → β) : (List.range l.length).filterMap (fun i => (l[i]?).map g) = l.map g := by
  have h := fm_list l (fun a => some (g a))
  have e : l.filterMap (fun a => some (g a)) = l.map g := by
    induction l with
    | nil => rfl
    | cons a l ih => simp
  rw [← e, ← h]
  congr 1
  funext i
  cases l[i]? <;> rfl
theorem all_decide {α : Type} {p : α → Prop} [DecidablePred p] {l : List α} : l.all (fun x => decide (p x)) = true ↔ ∀ x ∈ l, p x := by simp
end KX
namespace L2
open PySem PySem.Spec PyProof.Rows KX
theorem DpAll.bls_inv {K : PySem.W.Frag} {H : Hp} : ∀ {vs : List V} {ns : List Bool}, DpAll K H vs (ns.map PyData.bool) → vs = ns.map V.bl
  | _, [], h => by cases h; rfl
  | _, n :: ns, h => by
    cases h with
    | cons a t => rw [a.bl_inv, DpAll.bls_inv t]; rfl
end L2
end

section
set_option maxRecDepth 100000
set_option maxHeartbeats 2000000
/-! KX5: data that may be compared; lists of places, and what is removed of them. -/
namespace KX
open PySem PySem.Spec PyProof.Rows L2

/-! ### shapes -/
theorem lay_all {α : Type} {f : α → PyData} (h : ∀ x, (f x).canLay0 = true) : ∀ l : List α, PyData.canLayAll0 (l.map f) = true
  | [] => rfl
  | x :: l => by show ((f x).canLay0 && PyData.canLayAll0 (l.map f)) = true; rw [h x, lay_all h l]; rfl
theorem depth_all {α : Type} {f : α → PyData} {k : Nat} (h : ∀ x, (f x).depth ≤ k) : ∀ l : List α, PyData.depthAll (l.map f) ≤ k
  | [] => Nat.zero_le _
  | x :: l => by show max (f x).depth (PyData.depthAll (l.map f)) ≤ k; have := h x; have := depth_all h l; omega
/-- may be compared, at most k deep -/
def Sh (k : Nat) (d : PyData) : Prop := d.canLay0 = true ∧ d.depth ≤ k
theorem Sh.shaped {k : Nat} {d : PyData} (h : Sh k d) (hk : k ≤ 64) : SeqAt.shaped d = true := by
  unfold SeqAt.shaped
  rw [h.1]
  exact decide_eq_true (Nat.le_trans h.2 hk)
theorem sh_int (i : Int) : Sh 0 (.int i) := ⟨rfl, Nat.le_refl _⟩
theorem sh_o (o : Option Int) : Sh 0 (eO o) := by cases o <;> exact ⟨rfl, Nat.le_refl _⟩
theorem sh_list {α : Type} {f : α → PyData} {k : Nat} (h : ∀ x, Sh k (f x)) (l : List α) : Sh (k + 1) (.list (l.map f)) :=
  ⟨lay_all (fun x => (h x).1) l, Nat.succ_le_succ (depth_all (fun x => (h x).2) l)⟩
theorem sh_tuple {α : Type} {f : α → PyData} {k : Nat} (h : ∀ x, Sh k (f x)) (l : List α) : Sh (k + 1) (.tuple (l.map f)) :=
  ⟨lay_all (fun x => (h x).1) l, Nat.succ_le_succ (depth_all (fun x => (h x).2) l)⟩
theorem eqv_all {α : Type} [DecidableEq α] {f : α → PyData} (h : ∀ x y, PyData.eqv (f x) (f y) = decide (x = y)) : ∀ l m : List α, PyData.eqvAll (l.map f) (m.map f) = decide (l = m)
  | [], [] => rfl
  | [], _ :: _ => by simp [PyData.eqvAll]
  | _ :: _, [] => by simp [PyData.eqvAll]
  | x :: l, y :: m => by
    show (PyData.eqv (f x) (f y) && PyData.eqvAll (l.map f) (m.map f)) = _
    rw [h, eqv_all h l m]
    by_cases h1 : x = y <;> by_cases h2 : l = m <;> simp [h1, h2]
theorem eqv_int (i j : Int) : PyData.eqv (.int i) (.int j) = decide (i = j) := by
  show (i == j) = _
  by_cases h : i = j <;> simp [h]
theorem eqv_o (o p : Option Int) : PyData.eqv (eO o) (eO p) = decide (o = p) := by
  cases o <;> cases p <;> simp [eO, PyData.eqv]
  rename_i i j
  by_cases h : i = j <;> simp [h]

/-! ### lists of places -/
def natD (k : Nat) : PyData := .int (k : Int)
def nats (l : List Nat) : List V := l.map fun (k : Nat) => V.int (k : Int)
theorem nats_ints (l : List Nat) : nats l = (l.map fun (k : Nat) => (k : Int)).map V.int := by simp [nats]
theorem dp_nats {K : PySem.W.Frag} {H : Hp} : ∀ l : List Nat, DpAll K H (nats l) (l.map natD)
  | [] => .nil
  | k :: l => .cons (.int _) (dp_nats l)
theorem nats_inv {K : PySem.W.Frag} {H : Hp} : ∀ {vs : List V} {l : List Nat}, DpAll K H vs (l.map natD) → vs = nats l
  | _, [], h => by cases h; rfl
  | _, n :: ns, h => by
    cases h with
    | cons a t => rw [a.int_inv, nats_inv t]; rfl
theorem nats_get {l : List Nat} {i k : Nat} (h : l[i]? = some k) : (nats l)[i]? = some (.int (k : Int)) := by
  unfold nats; rw [List.getElem?_map, h]; rfl
theorem nats_len (l : List Nat) : (nats l).length = l.length := by simp [nats]
/-- l == [] -/
theorem eq_nil {K : PySem.W.Frag} {H : Hp} {q o : Addr} {l : List Nat} {Q : VK} (hq : SqL K H q (nats l)) (ho : SqL K H o []) (h : Q (.bl l.isEmpty) H) : rEqD K (.ref q) (.ref o) H Q := by
  refine ⟨_, _, .lst hq (dp_nats l), .lst ho .nil, (sh_list (fun x => sh_int _) l).shaped (by decide), rfl, ?_⟩
  have : PyData.eqv (.list (l.map natD)) (.list []) = l.isEmpty := by cases l <;> rfl
  rw [this]; exact h
theorem ne_nil {K : PySem.W.Frag} {H : Hp} {q o : Addr} {l : List Nat} {Q : VK} (hq : SqL K H q (nats l)) (ho : SqL K H o []) (h : Q (.bl (!l.isEmpty)) H) : rNeD K (.ref q) (.ref o) H Q := by
  refine ⟨_, _, .lst hq (dp_nats l), .lst ho .nil, (sh_list (fun x => sh_int _) l).shaped (by decide), rfl, ?_⟩
  have : PyData.eqv (.list (l.map natD)) (.list []) = l.isEmpty := by cases l <;> rfl
  rw [this]; exact h
theorem eraseIdx_map {α β : Type} (f : α → β) : ∀ (l : List α) (j : Nat), (l.map f).eraseIdx j = (l.eraseIdx j).map f
  | [], _ => rfl
  | _ :: _, 0 => rfl
  | x :: l, j + 1 => by show f x :: (l.map f).eraseIdx j = _; rw [eraseIdx_map f l j]; rfl
theorem first_at {l : List Nat} (hn : l.Nodup) {x : Nat} (hx : x ∈ l) : ∃ j, l[j]? = some x ∧ (∀ m, m < j → l[m]? ≠ some x) ∧ l.eraseIdx j = l.filter (fun y => decide (y ≠ x)) := by
  induction l with
  | nil => cases hx
  | cons a l ih =>
    rw [List.nodup_cons] at hn
    by_cases h : a = x
    · subst h
      refine ⟨0, rfl, fun m hm => by omega, ?_⟩
      rw [List.filter_cons]
      simp only [ne_eq, not_true, decide_false, Bool.false_eq_true, if_false]
      symm
      rw [List.eraseIdx_cons_zero, List.filter_eq_self]
      intro b hb
      simp
      rintro rfl
      exact hn.1 hb
    · have hx' : x ∈ l := by
        rcases List.mem_cons.mp hx with e | e
        · exact absurd e.symm h
        · exact e
      obtain ⟨j, h1, h2, h3⟩ := ih hn.2 hx'
      refine ⟨j + 1, by simpa using h1, fun m hm => ?_, ?_⟩
      · cases m with
        | zero => simp [h]
        | succ m => simpa using h2 m (by omega)
      · rw [List.eraseIdx_cons_succ, h3, List.filter_cons]
        simp [h]
/-- xs.remove(k) -/
theorem rem_nat {H : Hp} {l : Addr} {L : List Nat} {x : Nat} {Q : VK} (hL : H l = some (.lst (nats L))) (hn : L.Nodup) (hx : x ∈ L) (q : Q .non (upd H l (.lst (nats (L.filter fun y => decide (y ≠ x)))))) : rRemI (.ref l) [.int (x : Int)] H Q := by
  obtain ⟨j, h1, h2, h3⟩ := first_at hn hx
  refine ⟨l, L.map fun (k : Nat) => (k : Int), x, j, rfl, rfl, by rw [← nats_ints]; exact hL, by rw [List.getElem?_map, h1]; rfl, fun m hm e => ?_, ?_⟩
  · rw [List.getElem?_map] at e
    cases e1 : L[m]? with
    | none => rw [e1] at e; cases e
    | some y =>
      rw [e1] at e
      have : (y : Int) = (x : Int) := Option.some.inj e
      have : y = x := by omega
      subst this
      exact h2 m hm e1
  · rw [eraseIdx_map, h3, ← nats_ints]
    exact q
theorem nodup_len : ∀ (n : Nat) (l : List Nat), l.Nodup → (∀ x ∈ l, x < n) → l.length ≤ n
  | 0, l, _, h => by
    cases l with
    | nil => exact Nat.le_refl _
    | cons a l => exact absurd (h a List.mem_cons_self) (Nat.not_lt_zero _)
  | n + 1, l, hn, h => by
    have h1 := nodup_len n (l.erase n) (hn.erase n) fun x hx => by
      have hx' := (hn.mem_erase_iff).mp hx
      have := h x hx'.2
      have := hx'.1
      omega
    have h2 := List.length_erase (a := n) (l := l)
    split at h2 <;> omega
end KX
end

section
set_option maxRecDepth 100000
set_option maxHeartbeats 2000000
/-! KX6: a comprehension over two ranges. -/
namespace KX
open PySem PySem.Spec PyProof.Rows L2
theorem fm_if {α β} (p : α → Bool) (g : α → β) : ∀ l : List α, l.filterMap (fun b => if p b = true then some (g b) else none) = (l.filter p).map g
  | [] => rfl
  | a :: l => by
    rw [List.filterMap_cons, List.filter_cons, fm_if p g l]
    cases p a <;> simp
theorem flat_append : ∀ l m : List PyData, flatAll (l ++ m) = (flatAll l && flatAll m)
  | [], m => by simp [flatAll]
  | a :: l, m => by simp [flatAll, flat_append l m, Bool.and_assoc]
theorem flat_fm {f : Nat → Option PyData} : ∀ k, (∀ i d, i < k → f i = some d → flatD d = true) → flatAll ((List.range k).filterMap f) = true
  | 0, _ => rfl
  | k + 1, h => by
    rw [List.range_succ, List.filterMap_append, flat_append, flat_fm k fun i d hi => h i d (by omega)]
    cases e : f k with
    | none => simp [e, flatAll]
    | some d => simp [e, flatAll, h k d (by omega) e]
theorem fm_len (f : Nat → Option PyData) (k : Nat) : ((List.range k).filterMap f).length ≤ k := by
  have := List.length_filterMap_le f (List.range k)
  simpa using this
/-- what the first i turns of the outer and the first j of the inner source have made -/
def made2 (f : Nat → Nat → Option PyData) (n1 i : Nat) : List PyData := (List.range i).flatMap fun a => (List.range n1).filterMap (f a)
theorem made2_succ (f : Nat → Nat → Option PyData) (n1 i : Nat) : made2 f n1 (i + 1) = made2 f n1 i ++ (List.range n1).filterMap (f i) := by
  unfold made2
  rw [List.range_succ, List.flatMap_append]
  simp
theorem made2_len (f : Nat → Nat → Option PyData) (n1 : Nat) : ∀ i, (made2 f n1 i).length ≤ i * n1
  | 0 => by simp [made2]
  | i + 1 => by
    rw [made2_succ, List.length_append]
    have := made2_len f n1 i
    have := fm_len (f i) n1
    rw [Nat.succ_mul]; omega
theorem made2_flat (f : Nat → Nat → Option PyData) (n1 : Nat) : ∀ i, (∀ a b d, a < i → b < n1 → f a b = some d → flatD d = true) → flatAll (made2 f n1 i) = true
  | 0, _ => rfl
  | i + 1, h => by
    rw [made2_succ, flat_append, made2_flat f n1 i fun a b d ha => h a b d (by omega), flat_fm n1 fun b d hb => h i b d (by omega) hb]
    rfl
theorem comp2_rng {K : PySem.W.Frag} {wi : TI} {wi1 : TI} {ia ib : Nat} {tt1 : TT} {te : TE} {vs vs1 : List Nat} {σ : L2.St} {H0 : Hp} {Q : VK} {n n1 : Nat}
    (f : Nat → Nat → Option PyData) (hn : n * n1 ≤ 100000) (hf : ∀ a b d, a < n → b < n1 → f a b = some d → flatD d = true)
    (hw : ∀ R : It → Hp → Prop, R (Itr 0 n) H0 → wi σ H0 R)
    (hv : ∀ x, wipe ((wipe σ vs).set ia (some x)) vs = wipe σ vs) (hv1 : ∀ x y, wipe ((wipe ((wipe σ vs).set ia (some x)) vs1).set ib (some y)) vs1 = wipe ((wipe σ vs).set ia (some x)) vs1)
    (hw1 : ∀ (a : Nat) H (R : It → Hp → Prop), a < n → Same H0 H → R (Itr 0 n1) H → wi1 ((wipe σ vs).set ia (some (.int (a : Int)))) H R)
    (hs : ∀ (a b : Nat) H, a < n → b < n1 → Same H0 H → ∀ (Qy : VK) (Qn : Hp → Prop), (∀ d, f a b = some d → ∀ y H4, Same H H4 → Dp K H4 y d → Qy y H4) → (f a b = none → ∀ H4, Same H H4 → Qn H4) →
      tt1 ((wipe ((wipe σ vs).set ia (some (.int (a : Int)))) vs1).set ib (some (.int (b : Int)))) H fun c H3 => if c = true then te ((wipe ((wipe σ vs).set ia (some (.int (a : Int)))) vs1).set ib (some (.int (b : Int)))) H3 Qy else Qn H3)
    (hq : ∀ p xs H', Same H0 H' → H0 p = none → H' p = some (.lst xs) → DpAll K H' xs (made2 f n1 n) → Q (.ref p) H') :
    tLc2 wi (gName ia) tYes wi1 (gName ib) tt1 te vs vs1 σ H0 Q := by
  refine hw _ fun D hD => ?_
  have big : 100001 ≤ sizeLine := by decide
  refine ⟨fun i m H => m = n - i ∧ i ≤ n ∧ Same H0 H ∧ ∃ xs, H D = some (.lst xs) ∧ DpAll K H xs (made2 f n1 i), ⟨n, by simp, Nat.zero_le _, same_upd hD, [], upd_same, .nil⟩, ?_⟩
  rintro i m H ⟨rfl, hi, sm, xs, hx, hd⟩
  by_cases hlt : i < n
  · refine .inr ⟨hlt, fun H' => i + 1 ≤ n ∧ Same H0 H' ∧ ∃ xs, H' D = some (.lst xs) ∧ DpAll K H' xs (made2 f n1 (i + 1)), fun H' p => ⟨n - (i + 1), by omega, rfl, p⟩, ?_⟩
    rintro x H' ⟨rfl, rfl⟩
    have e0 : (0 : Int) + (i : Int) = (i : Int) := by omega
    rw [e0]
    refine ⟨hv _, ?_⟩
    dsimp only [tYes]
    refine iteT (hw1 i H' _ hlt sm ?_)
    refine ⟨fun j k H => k = n1 - j ∧ j ≤ n1 ∧ Same H0 H ∧ ∃ xs, H D = some (.lst xs) ∧ DpAll K H xs (made2 f n1 i ++ (List.range j).filterMap (f i)), ⟨n1, by simp, Nat.zero_le _, sm, xs, hx, by simpa using hd⟩, ?_⟩
    rintro j k H1 ⟨rfl, hj, sm1, ys, hy, hd1⟩
    by_cases hlt1 : j < n1
    · refine .inr ⟨hlt1, fun H' => j + 1 ≤ n1 ∧ Same H0 H' ∧ ∃ xs, H' D = some (.lst xs) ∧ DpAll K H' xs (made2 f n1 i ++ (List.range (j + 1)).filterMap (f i)), fun H' p => ⟨n1 - (j + 1), by omega, rfl, p⟩, ?_⟩
      rintro x H2 ⟨rfl, rfl⟩
      have e1 : (0 : Int) + (j : Int) = (j : Int) := by omega
      rw [e1]
      refine ⟨hv1 _ _, ?_⟩
      have hfl : flatAll (made2 f n1 i ++ (List.range j).filterMap (f i)) = true := by
        rw [flat_append, made2_flat f n1 i fun a b d ha => hf a b d (by omega), flat_fm j fun b d hb => hf i b d hlt (by omega)]
        rfl
      have hle : ys.length < sizeLine := by
        rw [hd1.length, List.length_append]
        have h1 := made2_len f n1 i
        have h2 := fm_len (f i) j
        have h3 : i * n1 + n1 ≤ n * n1 := by rw [← Nat.succ_mul]; exact Nat.mul_le_mul_right _ hlt
        omega
      refine hs i j H2 hlt hlt1 sm1 _ _ (fun d e y H4 s4 dy => ?_) (fun e H4 s4 => ?_)
      · refine ⟨ys, s4 _ _ hy, hle, by omega, fun b o q => ?_, ys ++ [y], upd_same, ?_⟩
        · rw [upd_ne (ne_of_none q hD)]; exact s4 _ _ (sm1 _ _ q)
        · have kt : KeepT H4 (upd H4 D (.lst (ys ++ [y]))) := KeepT.upd (s4 _ _ hy)
          rw [List.range_succ, List.filterMap_append, ← List.append_assoc]
          refine ((hd1.same s4).keep kt hfl).append ?_
          simp only [List.filterMap_cons, List.filterMap_nil, e]
          exact .cons (dy.keep kt (hf i j d hlt hlt1 e)) .nil
      · refine ⟨by omega, sm1.trans s4, ys, s4 _ _ hy, ?_⟩
        rw [List.range_succ, List.filterMap_append]
        simp only [List.filterMap_cons, List.filterMap_nil, e, List.append_nil]
        exact hd1.same s4
    · have ej : j = n1 := by omega
      subst ej
      refine .inl ⟨Nat.le_refl _, by omega, sm1, ys, hy, ?_⟩
      rw [made2_succ]
      exact hd1
  · have ei : i = n := by omega
    subst ei
    exact .inl ⟨Nat.le_refl _, hq D xs H sm hD hx hd⟩
end KX
end

section
set_option maxRecDepth 100000
set_option maxHeartbeats 2000000
/-! A69: the text: each def's place, scope, names; what the top has written. Printed by gen.py. -/
namespace A69
open PySem PySem.Spec PyProof.Rows L2 KX
def topS (i : Nat) : Stmt := PySem.Challenge.pw_planwide_k69_whole_closed_and_reduced_pl.main.body.getD i (.Pass ⟨0, 0, 0, 0⟩)
abbrev s_is_integer : Stmt := topS 6
abbrev N_is_integer : List Str := ["value"]
theorem sc_is_integer : FnScope N_is_integer ["value"] (defScope s_is_integer) := ⟨rfl, rfl, rfl, by decide +kernel, rfl, by decide +kernel, by decide +kernel⟩
abbrev s_is_count : Stmt := topS 7
abbrev N_is_count : List Str := ["value"]
theorem sc_is_count : FnScope N_is_count ["value"] (defScope s_is_count) := ⟨rfl, rfl, rfl, by decide +kernel, rfl, by decide +kernel, by decide +kernel⟩
abbrev s_is_within : Stmt := topS 8
abbrev N_is_within : List Str := ["value", "low", "high"]
theorem sc_is_within : FnScope N_is_within ["value", "low", "high"] (defScope s_is_within) := ⟨rfl, rfl, rfl, by decide +kernel, rfl, by decide +kernel, by decide +kernel⟩
abbrev s_is_index : Stmt := topS 9
abbrev N_is_index : List Str := ["value", "many"]
theorem sc_is_index : FnScope N_is_index ["value", "many"] (defScope s_is_index) := ⟨rfl, rfl, rfl, by decide +kernel, rfl, by decide +kernel, by decide +kernel⟩
abbrev s_is_tuple : Stmt := topS 10
abbrev N_is_tuple : List Str := ["value", "many"]
theorem sc_is_tuple : FnScope N_is_tuple ["value", "many"] (defScope s_is_tuple) := ⟨rfl, rfl, rfl, by decide +kernel, rfl, by decide +kernel, by decide +kernel⟩
abbrev s_in_order : Stmt := topS 11
abbrev N_in_order : List Str := ["items", "at"]
theorem sc_in_order : FnScope N_in_order ["items"] (defScope s_in_order) := ⟨rfl, rfl, rfl, by decide +kernel, rfl, by decide +kernel, by decide +kernel⟩
abbrev s_plus : Stmt := topS 12
abbrev N_plus : List Str := ["one", "other"]
theorem sc_plus : FnScope N_plus ["one", "other"] (defScope s_plus) := ⟨rfl, rfl, rfl, by decide +kernel, rfl, by decide +kernel, by decide +kernel⟩
abbrev s_is_later : Stmt := topS 13
abbrev N_is_later : List Str := ["one", "other"]
theorem sc_is_later : FnScope N_is_later ["one", "other"] (defScope s_is_later) := ⟨rfl, rfl, rfl, by decide +kernel, rfl, by decide +kernel, by decide +kernel⟩
abbrev s_is_activity : Stmt := topS 17
abbrev N_is_activity : List Str := ["many", "value"]
theorem sc_is_activity : FnScope N_is_activity ["many", "value"] (defScope s_is_activity) := ⟨rfl, rfl, rfl, by decide +kernel, rfl, by decide +kernel, by decide +kernel⟩
abbrev s_are_activities : Stmt := topS 18
abbrev N_are_activities : List Str := ["many", "value", "item"]
theorem sc_are_activities : FnScope N_are_activities ["many", "value"] (defScope s_are_activities) := ⟨rfl, rfl, rfl, by decide +kernel, rfl, by decide +kernel, by decide +kernel⟩
abbrev s_coming_to : Stmt := topS 19
abbrev N_coming_to : List Str := ["many", "activities", "found", "index", "activity", "_"]
theorem sc_coming_to : FnScope N_coming_to ["many", "activities"] (defScope s_coming_to) := ⟨rfl, rfl, rfl, by decide +kernel, rfl, by decide +kernel, by decide +kernel⟩
abbrev s_sorted_events : Stmt := topS 20
abbrev N_sorted_events : List Str := ["many", "activities", "ready", "coming", "found", "here", "event", "index", "activity"]
theorem sc_sorted_events : FnScope N_sorted_events ["many", "activities"] (defScope s_sorted_events) := ⟨rfl, rfl, rfl, by decide +kernel, rfl, by decide +kernel, by decide +kernel⟩
abbrev s_has_ring : Stmt := topS 21
abbrev N_has_ring : List Str := ["many", "pairs"]
theorem sc_has_ring : FnScope N_has_ring ["many", "pairs"] (defScope s_has_ring) := ⟨rfl, rfl, rfl, by decide +kernel, rfl, by decide +kernel, by decide +kernel⟩
abbrev s_is_plan : Stmt := topS 22
abbrev N_is_plan : List Str := ["value", "many", "activities"]
theorem sc_is_plan : FnScope N_is_plan ["value"] (defScope s_is_plan) := ⟨rfl, rfl, rfl, by decide +kernel, rfl, by decide +kernel, by decide +kernel⟩
abbrev s_check_plan : Stmt := topS 23
abbrev N_check_plan : List Str := ["plan"]
theorem sc_check_plan : FnScope N_check_plan ["plan"] (defScope s_check_plan) := ⟨rfl, rfl, rfl, by decide +kernel, rfl, by decide +kernel, by decide +kernel⟩
abbrev s_plan_of : Stmt := topS 24
abbrev N_plan_of : List Str := ["many", "activities"]
theorem sc_plan_of : FnScope N_plan_of ["many", "activities"] (defScope s_plan_of) := ⟨rfl, rfl, rfl, by decide +kernel, rfl, by decide +kernel, by decide +kernel⟩
abbrev s_search : Stmt := topS 26
abbrev N_search : List Str := ["many", "activities", "one", "event", "found", "came", "coming", "index", "time"]
theorem sc_search : FnScope N_search ["many", "activities", "one"] (defScope s_search) := ⟨rfl, rfl, rfl, by decide +kernel, rfl, by decide +kernel, by decide +kernel⟩
abbrev s_times_from : Stmt := topS 27
abbrev N_times_from : List Str := ["many", "activities", "one"]
theorem sc_times_from : FnScope N_times_from ["many", "activities", "one"] (defScope s_times_from) := ⟨rfl, rfl, rfl, by decide +kernel, rfl, by decide +kernel, by decide +kernel⟩
abbrev s_times_of : Stmt := topS 28
abbrev N_times_of : List Str := ["plan", "one"]
theorem sc_times_of : FnScope N_times_of ["plan"] (defScope s_times_of) := ⟨rfl, rfl, rfl, by decide +kernel, rfl, by decide +kernel, by decide +kernel⟩
abbrev s_pairs_of : Stmt := topS 30
abbrev N_pairs_of : List Str := ["found", "many", "a", "b"]
theorem sc_pairs_of : FnScope N_pairs_of ["found"] (defScope s_pairs_of) := ⟨rfl, rfl, rfl, by decide +kernel, rfl, by decide +kernel, by decide +kernel⟩
abbrev s_sums_between : Stmt := topS 31
abbrev N_sums_between : List Str := ["found", "a", "b", "sums", "c", "item"]
theorem sc_sums_between : FnScope N_sums_between ["found", "a", "b"] (defScope s_sums_between) := ⟨rfl, rfl, rfl, by decide +kernel, rfl, by decide +kernel, by decide +kernel⟩
abbrev s_closure : Stmt := topS 32
abbrev N_closure : List Str := ["plan", "found", "pairs", "a", "b"]
theorem sc_closure : FnScope N_closure ["plan"] (defScope s_closure) := ⟨rfl, rfl, rfl, by decide +kernel, rfl, by decide +kernel, by decide +kernel⟩
abbrev s_is_spare : Stmt := topS 33
abbrev N_is_spare : List Str := ["plan", "activity", "many", "activities"]
theorem sc_is_spare : FnScope N_is_spare ["plan", "activity"] (defScope s_is_spare) := ⟨rfl, rfl, rfl, by decide +kernel, rfl, by decide +kernel, by decide +kernel⟩
abbrev s_reduced : Stmt := topS 34
abbrev N_reduced : List Str := ["plan", "found", "pairs", "a", "b", "item"]
theorem sc_reduced : FnScope N_reduced ["plan"] (defScope s_reduced) := ⟨rfl, rfl, rfl, by decide +kernel, rfl, by decide +kernel, by decide +kernel⟩
abbrev s_law_cell : Stmt := topS 36
abbrev N_law_cell : List Str := ["script", "k"]
theorem sc_law_cell : FnScope N_law_cell ["script", "k"] (defScope s_law_cell) := ⟨rfl, rfl, rfl, by decide +kernel, rfl, by decide +kernel, by decide +kernel⟩
abbrev s_law_box : Stmt := topS 37
abbrev N_law_box : List Str := ["great"]
theorem sc_law_box : FnScope N_law_box ["great"] (defScope s_law_box) := ⟨rfl, rfl, rfl, by decide +kernel, rfl, by decide +kernel, by decide +kernel⟩
abbrev s_law_take : Stmt := topS 38
abbrev N_law_take : List Str := ["box", "many", "mixed", "digit"]
theorem sc_law_take : FnScope N_law_take ["box", "many"] (defScope s_law_take) := ⟨rfl, rfl, rfl, by decide +kernel, rfl, by decide +kernel, by decide +kernel⟩
abbrev s_law_mixed : Stmt := topS 39
abbrev N_law_mixed : List Str := ["box", "items", "left", "found"]
theorem sc_law_mixed : FnScope N_law_mixed ["box", "items"] (defScope s_law_mixed) := ⟨rfl, rfl, rfl, by decide +kernel, rfl, by decide +kernel, by decide +kernel⟩
abbrev s_law_same : Stmt := topS 40
abbrev N_law_same : List Str := ["given", "due", "k"]
theorem sc_law_same : FnScope N_law_same ["given", "due"] (defScope s_law_same) := ⟨rfl, rfl, rfl, by decide +kernel, rfl, by decide +kernel, by decide +kernel⟩
abbrev s_law_times : Stmt := topS 41
abbrev N_law_times : List Str := ["many", "activities", "rows", "by", "a", "b", "duration", "row", "at", "some"]
theorem sc_law_times : FnScope N_law_times ["many", "activities"] (defScope s_law_times) := ⟨rfl, rfl, rfl, by decide +kernel, rfl, by decide +kernel, by decide +kernel⟩
abbrev s_law_duration : Stmt := topS 42
abbrev N_law_duration : List Str := ["box", "great"]
theorem sc_law_duration : FnScope N_law_duration ["box", "great"] (defScope s_law_duration) := ⟨rfl, rfl, rfl, by decide +kernel, rfl, by decide +kernel, by decide +kernel⟩
abbrev s_law_steps : Stmt := topS 43
abbrev N_law_steps : List Str := ["box", "order", "count", "great", "found", "k", "at", "to", "again"]
theorem sc_law_steps : FnScope N_law_steps ["box", "order", "count", "great"] (defScope s_law_steps) := ⟨rfl, rfl, rfl, by decide +kernel, rfl, by decide +kernel, by decide +kernel⟩
abbrev s_law_plan : Stmt := topS 44
abbrev N_law_plan : List Str := ["box", "wide", "great", "many", "order", "steps", "line", "event", "k"]
theorem sc_law_plan : FnScope N_law_plan ["box", "wide", "great"] (defScope s_law_plan) := ⟨rfl, rfl, rfl, by decide +kernel, rfl, by decide +kernel, by decide +kernel⟩
abbrev s_law_bad_plan : Stmt := topS 45
abbrev N_law_bad_plan : List Str := ["box", "plan", "wrong", "found", "many", "steps", "item"]
theorem sc_law_bad_plan : FnScope N_law_bad_plan ["box", "plan"] (defScope s_law_bad_plan) := ⟨rfl, rfl, rfl, by decide +kernel, rfl, by decide +kernel, by decide +kernel⟩
abbrev s_law_line : Stmt := topS 46
abbrev N_law_line : List Str := ["box", "steps", "order", "more", "k"]
theorem sc_law_line : FnScope N_law_line ["box"] (defScope s_law_line) := ⟨rfl, rfl, rfl, by decide +kernel, rfl, by decide +kernel, by decide +kernel⟩
abbrev s_law_even : Stmt := topS 47
abbrev N_law_even : List Str := ["box", "plan", "turn", "many", "steps", "rows", "found", "a", "b"]
theorem sc_law_even : FnScope N_law_even ["box", "plan"] (defScope s_law_even) := ⟨rfl, rfl, rfl, by decide +kernel, rfl, by decide +kernel, by decide +kernel⟩
abbrev s_law_pairs : Stmt := topS 48
abbrev N_law_pairs : List Str := ["rows", "found", "a", "b"]
theorem sc_law_pairs : FnScope N_law_pairs ["rows"] (defScope s_law_pairs) := ⟨rfl, rfl, rfl, by decide +kernel, rfl, by decide +kernel, by decide +kernel⟩
abbrev s_law_reduced : Stmt := topS 49
abbrev N_law_reduced : List Str := ["plan", "rows", "found", "a", "b", "sums", "c", "some"]
theorem sc_law_reduced : FnScope N_law_reduced ["plan"] (defScope s_law_reduced) := ⟨rfl, rfl, rfl, by decide +kernel, rfl, by decide +kernel, by decide +kernel⟩
abbrev s_law_without : Stmt := topS 50
abbrev N_law_without : List Str := ["plan", "at"]
theorem sc_law_without : FnScope N_law_without ["plan", "at"] (defScope s_law_without) := ⟨rfl, rfl, rfl, by decide +kernel, rfl, by decide +kernel, by decide +kernel⟩
abbrev s_law_asked : Stmt := topS 51
abbrev N_law_asked : List Str := ["which", "args", "turn", "e"]
theorem sc_law_asked : FnScope N_law_asked ["which", "args", "turn"] (defScope s_law_asked) := ⟨rfl, rfl, rfl, by decide +kernel, rfl, by decide +kernel, by decide +kernel⟩
abbrev s_law_plan_right : Stmt := topS 52
abbrev N_law_plan_right : List Str := ["box", "plan", "other", "turn", "rows", "whole", "due", "which", "pairs", "small", "step", "a", "b"]
theorem sc_law_plan_right : FnScope N_law_plan_right ["box", "plan", "other", "turn"] (defScope s_law_plan_right) := ⟨rfl, rfl, rfl, by decide +kernel, rfl, by decide +kernel, by decide +kernel⟩
abbrev s_law_spare_right : Stmt := topS 53
abbrev N_law_spare_right : List Str := ["box", "plan", "turn", "at", "rows", "small", "less"]
theorem sc_law_spare_right : FnScope N_law_spare_right ["box", "plan", "turn"] (defScope s_law_spare_right) := ⟨rfl, rfl, rfl, by decide +kernel, rfl, by decide +kernel, by decide +kernel⟩
abbrev s_law_refused_right : Stmt := topS 54
abbrev N_law_refused_right : List Str := ["box", "plan", "turn", "which", "odd", "activity", "args", "given", "thing"]
theorem sc_law_refused_right : FnScope N_law_refused_right ["box", "plan", "turn"] (defScope s_law_refused_right) := ⟨rfl, rfl, rfl, by decide +kernel, rfl, by decide +kernel, by decide +kernel⟩
abbrev s_law : Stmt := topS 55
abbrev N_law : List Str := ["script", "k", "box", "wide", "great", "turn", "plan", "other", "way"]
theorem sc_law : FnScope N_law ["script"] (defScope s_law) := ⟨rfl, rfl, rfl, by decide +kernel, rfl, by decide +kernel, by decide +kernel⟩
abbrev s_init_InvalidPlan : Stmt := inClass (topS 2) 0
abbrev N_init_InvalidPlan : List Str := ["self", "given"]
theorem sc_init_InvalidPlan : FnScope N_init_InvalidPlan ["self", "given"] (defScope s_init_InvalidPlan) := ⟨rfl, rfl, rfl, by decide +kernel, rfl, by decide +kernel, by decide +kernel⟩
abbrev s_init_InvalidActivity : Stmt := inClass (topS 3) 0
abbrev N_init_InvalidActivity : List Str := ["self", "given"]
theorem sc_init_InvalidActivity : FnScope N_init_InvalidActivity ["self", "given"] (defScope s_init_InvalidActivity) := ⟨rfl, rfl, rfl, by decide +kernel, rfl, by decide +kernel, by decide +kernel⟩
abbrev s_init_TooMany : Stmt := inClass (topS 4) 0
abbrev N_init_TooMany : List Str := ["self", "count"]
theorem sc_init_TooMany : FnScope N_init_TooMany ["self", "count"] (defScope s_init_TooMany) := ⟨rfl, rfl, rfl, by decide +kernel, rfl, by decide +kernel, by decide +kernel⟩
/-- what the top has written -/
structure TX (K : PySem.W.Frag) (mg : Str → Option Value) where
  z_abs : mg "abs" = none
  z_all : mg "all" = none
  z_bool : mg "bool" = none
  z_enumerate : mg "enumerate" = none
  z_int : mg "int" = none
  z_isinstance : mg "isinstance" = none
  z_len : mg "len" = none
  z_list : mg "list" = none
  z_max : mg "max" = none
  z_min : mg "min" = none
  z_range : mg "range" = none
  z_sorted : mg "sorted" = none
  z_str : mg "str" = none
  z_sum : mg "sum" = none
  z_tuple : mg "tuple" = none
  t_MOST_EVENTS : Tok
  g_MOST_EVENTS : mg "MOST_EVENTS" = some (.int 20 t_MOST_EVENTS)
  t_MOST_ACTIVITIES : Tok
  g_MOST_ACTIVITIES : mg "MOST_ACTIVITIES" = some (.int 120 t_MOST_ACTIVITIES)
  f_is_integer : Addr
  fd_is_integer : FuncData
  F_is_integer : Fun K "is_integer" "is_integer" s_is_integer f_is_integer fd_is_integer
  g_is_integer : mg "is_integer" = some (.ref f_is_integer)
  f_is_count : Addr
  fd_is_count : FuncData
  F_is_count : Fun K "is_count" "is_count" s_is_count f_is_count fd_is_count
  g_is_count : mg "is_count" = some (.ref f_is_count)
  f_is_within : Addr
  fd_is_within : FuncData
  F_is_within : Fun K "is_within" "is_within" s_is_within f_is_within fd_is_within
  g_is_within : mg "is_within" = some (.ref f_is_within)
  f_is_index : Addr
  fd_is_index : FuncData
  F_is_index : Fun K "is_index" "is_index" s_is_index f_is_index fd_is_index
  g_is_index : mg "is_index" = some (.ref f_is_index)
  f_is_tuple : Addr
  fd_is_tuple : FuncData
  F_is_tuple : Fun K "is_tuple" "is_tuple" s_is_tuple f_is_tuple fd_is_tuple
  g_is_tuple : mg "is_tuple" = some (.ref f_is_tuple)
  f_in_order : Addr
  fd_in_order : FuncData
  F_in_order : Fun K "in_order" "in_order" s_in_order f_in_order fd_in_order
  g_in_order : mg "in_order" = some (.ref f_in_order)
  f_plus : Addr
  fd_plus : FuncData
  F_plus : Fun K "plus" "plus" s_plus f_plus fd_plus
  g_plus : mg "plus" = some (.ref f_plus)
  f_is_later : Addr
  fd_is_later : FuncData
  F_is_later : Fun K "is_later" "is_later" s_is_later f_is_later fd_is_later
  g_is_later : mg "is_later" = some (.ref f_is_later)
  f_is_activity : Addr
  fd_is_activity : FuncData
  F_is_activity : Fun K "is_activity" "is_activity" s_is_activity f_is_activity fd_is_activity
  g_is_activity : mg "is_activity" = some (.ref f_is_activity)
  f_are_activities : Addr
  fd_are_activities : FuncData
  F_are_activities : Fun K "are_activities" "are_activities" s_are_activities f_are_activities fd_are_activities
  g_are_activities : mg "are_activities" = some (.ref f_are_activities)
  f_coming_to : Addr
  fd_coming_to : FuncData
  F_coming_to : Fun K "coming_to" "coming_to" s_coming_to f_coming_to fd_coming_to
  g_coming_to : mg "coming_to" = some (.ref f_coming_to)
  f_sorted_events : Addr
  fd_sorted_events : FuncData
  F_sorted_events : Fun K "sorted_events" "sorted_events" s_sorted_events f_sorted_events fd_sorted_events
  g_sorted_events : mg "sorted_events" = some (.ref f_sorted_events)
  f_has_ring : Addr
  fd_has_ring : FuncData
  F_has_ring : Fun K "has_ring" "has_ring" s_has_ring f_has_ring fd_has_ring
  g_has_ring : mg "has_ring" = some (.ref f_has_ring)
  f_is_plan : Addr
  fd_is_plan : FuncData
  F_is_plan : Fun K "is_plan" "is_plan" s_is_plan f_is_plan fd_is_plan
  g_is_plan : mg "is_plan" = some (.ref f_is_plan)
  f_check_plan : Addr
  fd_check_plan : FuncData
  F_check_plan : Fun K "check_plan" "check_plan" s_check_plan f_check_plan fd_check_plan
  g_check_plan : mg "check_plan" = some (.ref f_check_plan)
  f_plan_of : Addr
  fd_plan_of : FuncData
  F_plan_of : Fun K "plan_of" "plan_of" s_plan_of f_plan_of fd_plan_of
  g_plan_of : mg "plan_of" = some (.ref f_plan_of)
  f_search : Addr
  fd_search : FuncData
  F_search : Fun K "search" "search" s_search f_search fd_search
  g_search : mg "search" = some (.ref f_search)
  f_times_from : Addr
  fd_times_from : FuncData
  F_times_from : Fun K "times_from" "times_from" s_times_from f_times_from fd_times_from
  g_times_from : mg "times_from" = some (.ref f_times_from)
  f_times_of : Addr
  fd_times_of : FuncData
  F_times_of : Fun K "times_of" "times_of" s_times_of f_times_of fd_times_of
  g_times_of : mg "times_of" = some (.ref f_times_of)
  f_pairs_of : Addr
  fd_pairs_of : FuncData
  F_pairs_of : Fun K "pairs_of" "pairs_of" s_pairs_of f_pairs_of fd_pairs_of
  g_pairs_of : mg "pairs_of" = some (.ref f_pairs_of)
  f_sums_between : Addr
  fd_sums_between : FuncData
  F_sums_between : Fun K "sums_between" "sums_between" s_sums_between f_sums_between fd_sums_between
  g_sums_between : mg "sums_between" = some (.ref f_sums_between)
  f_closure : Addr
  fd_closure : FuncData
  F_closure : Fun K "closure" "closure" s_closure f_closure fd_closure
  g_closure : mg "closure" = some (.ref f_closure)
  f_is_spare : Addr
  fd_is_spare : FuncData
  F_is_spare : Fun K "is_spare" "is_spare" s_is_spare f_is_spare fd_is_spare
  g_is_spare : mg "is_spare" = some (.ref f_is_spare)
  f_reduced : Addr
  fd_reduced : FuncData
  F_reduced : Fun K "reduced" "reduced" s_reduced f_reduced fd_reduced
  g_reduced : mg "reduced" = some (.ref f_reduced)
  f_law_cell : Addr
  fd_law_cell : FuncData
  F_law_cell : Fun K "_law_cell" "_law_cell" s_law_cell f_law_cell fd_law_cell
  g_law_cell : mg "_law_cell" = some (.ref f_law_cell)
  f_law_box : Addr
  fd_law_box : FuncData
  F_law_box : Fun K "_law_box" "_law_box" s_law_box f_law_box fd_law_box
  g_law_box : mg "_law_box" = some (.ref f_law_box)
  f_law_take : Addr
  fd_law_take : FuncData
  F_law_take : Fun K "_law_take" "_law_take" s_law_take f_law_take fd_law_take
  g_law_take : mg "_law_take" = some (.ref f_law_take)
  f_law_mixed : Addr
  fd_law_mixed : FuncData
  F_law_mixed : Fun K "_law_mixed" "_law_mixed" s_law_mixed f_law_mixed fd_law_mixed
  g_law_mixed : mg "_law_mixed" = some (.ref f_law_mixed)
  f_law_same : Addr
  fd_law_same : FuncData
  F_law_same : Fun K "_law_same" "_law_same" s_law_same f_law_same fd_law_same
  g_law_same : mg "_law_same" = some (.ref f_law_same)
  f_law_times : Addr
  fd_law_times : FuncData
  F_law_times : Fun K "_law_times" "_law_times" s_law_times f_law_times fd_law_times
  g_law_times : mg "_law_times" = some (.ref f_law_times)
  f_law_duration : Addr
  fd_law_duration : FuncData
  F_law_duration : Fun K "_law_duration" "_law_duration" s_law_duration f_law_duration fd_law_duration
  g_law_duration : mg "_law_duration" = some (.ref f_law_duration)
  f_law_steps : Addr
  fd_law_steps : FuncData
  F_law_steps : Fun K "_law_steps" "_law_steps" s_law_steps f_law_steps fd_law_steps
  g_law_steps : mg "_law_steps" = some (.ref f_law_steps)
  f_law_plan : Addr
  fd_law_plan : FuncData
  F_law_plan : Fun K "_law_plan" "_law_plan" s_law_plan f_law_plan fd_law_plan
  g_law_plan : mg "_law_plan" = some (.ref f_law_plan)
  f_law_bad_plan : Addr
  fd_law_bad_plan : FuncData
  F_law_bad_plan : Fun K "_law_bad_plan" "_law_bad_plan" s_law_bad_plan f_law_bad_plan fd_law_bad_plan
  g_law_bad_plan : mg "_law_bad_plan" = some (.ref f_law_bad_plan)
  f_law_line : Addr
  fd_law_line : FuncData
  F_law_line : Fun K "_law_line" "_law_line" s_law_line f_law_line fd_law_line
  g_law_line : mg "_law_line" = some (.ref f_law_line)
  f_law_even : Addr
  fd_law_even : FuncData
  F_law_even : Fun K "_law_even" "_law_even" s_law_even f_law_even fd_law_even
  g_law_even : mg "_law_even" = some (.ref f_law_even)
  f_law_pairs : Addr
  fd_law_pairs : FuncData
  F_law_pairs : Fun K "_law_pairs" "_law_pairs" s_law_pairs f_law_pairs fd_law_pairs
  g_law_pairs : mg "_law_pairs" = some (.ref f_law_pairs)
  f_law_reduced : Addr
  fd_law_reduced : FuncData
  F_law_reduced : Fun K "_law_reduced" "_law_reduced" s_law_reduced f_law_reduced fd_law_reduced
  g_law_reduced : mg "_law_reduced" = some (.ref f_law_reduced)
  f_law_without : Addr
  fd_law_without : FuncData
  F_law_without : Fun K "_law_without" "_law_without" s_law_without f_law_without fd_law_without
  g_law_without : mg "_law_without" = some (.ref f_law_without)
  f_law_asked : Addr
  fd_law_asked : FuncData
  F_law_asked : Fun K "_law_asked" "_law_asked" s_law_asked f_law_asked fd_law_asked
  g_law_asked : mg "_law_asked" = some (.ref f_law_asked)
  f_law_plan_right : Addr
  fd_law_plan_right : FuncData
  F_law_plan_right : Fun K "_law_plan_right" "_law_plan_right" s_law_plan_right f_law_plan_right fd_law_plan_right
  g_law_plan_right : mg "_law_plan_right" = some (.ref f_law_plan_right)
  f_law_spare_right : Addr
  fd_law_spare_right : FuncData
  F_law_spare_right : Fun K "_law_spare_right" "_law_spare_right" s_law_spare_right f_law_spare_right fd_law_spare_right
  g_law_spare_right : mg "_law_spare_right" = some (.ref f_law_spare_right)
  f_law_refused_right : Addr
  fd_law_refused_right : FuncData
  F_law_refused_right : Fun K "_law_refused_right" "_law_refused_right" s_law_refused_right f_law_refused_right fd_law_refused_right
  g_law_refused_right : mg "_law_refused_right" = some (.ref f_law_refused_right)
  f_law : Addr
  fd_law : FuncData
  F_law : Fun K "law" "law" s_law f_law fd_law
  g_law : mg "law" = some (.ref f_law)
  c_PlanError : Addr
  gc_PlanError : mg "PlanError" = some (.ref c_PlanError)
  p_PlanError : PIni K mg "PlanError" c_PlanError
  c_InvalidPlan : Addr
  gc_InvalidPlan : mg "InvalidPlan" = some (.ref c_InvalidPlan)
  o_InvalidPlan : OexC K c_InvalidPlan
  x_InvalidPlan : XfC K c_InvalidPlan
  fi_InvalidPlan : Addr
  fdi_InvalidPlan : FuncData
  Fi_InvalidPlan : Fun K "__init__" "InvalidPlan.__init__" s_init_InvalidPlan fi_InvalidPlan fdi_InvalidPlan
  i_InvalidPlan : PySem.W.findIn K (.ref c_InvalidPlan) "__init__" = some (some (.ref fi_InvalidPlan))
  ti_InvalidPlan : PySem.W.typeIn K (.ref fi_InvalidPlan) = some (.type "function")
  nf_InvalidPlan : PySem.W.findIn K (.ref c_InvalidPlan) "given" = some none
  c_InvalidActivity : Addr
  gc_InvalidActivity : mg "InvalidActivity" = some (.ref c_InvalidActivity)
  o_InvalidActivity : OexC K c_InvalidActivity
  x_InvalidActivity : XfC K c_InvalidActivity
  fi_InvalidActivity : Addr
  fdi_InvalidActivity : FuncData
  Fi_InvalidActivity : Fun K "__init__" "InvalidActivity.__init__" s_init_InvalidActivity fi_InvalidActivity fdi_InvalidActivity
  i_InvalidActivity : PySem.W.findIn K (.ref c_InvalidActivity) "__init__" = some (some (.ref fi_InvalidActivity))
  ti_InvalidActivity : PySem.W.typeIn K (.ref fi_InvalidActivity) = some (.type "function")
  nf_InvalidActivity : PySem.W.findIn K (.ref c_InvalidActivity) "given" = some none
  c_TooMany : Addr
  gc_TooMany : mg "TooMany" = some (.ref c_TooMany)
  o_TooMany : OexC K c_TooMany
  x_TooMany : XfC K c_TooMany
  fi_TooMany : Addr
  fdi_TooMany : FuncData
  Fi_TooMany : Fun K "__init__" "TooMany.__init__" s_init_TooMany fi_TooMany fdi_TooMany
  i_TooMany : PySem.W.findIn K (.ref c_TooMany) "__init__" = some (some (.ref fi_TooMany))
  ti_TooMany : PySem.W.typeIn K (.ref fi_TooMany) = some (.type "function")
  nf_TooMany : PySem.W.findIn K (.ref c_TooMany) "count" = some none
  e_InvalidPlan_InvalidPlan : PySem.W.exmOne K (.ref c_InvalidPlan) (.ref c_InvalidPlan) = some true
  e_InvalidActivity_InvalidPlan : PySem.W.exmOne K (.ref c_InvalidActivity) (.ref c_InvalidPlan) = some false
  e_InvalidActivity_InvalidActivity : PySem.W.exmOne K (.ref c_InvalidActivity) (.ref c_InvalidActivity) = some true
  e_TooMany_InvalidPlan : PySem.W.exmOne K (.ref c_TooMany) (.ref c_InvalidPlan) = some false
  e_TooMany_InvalidActivity : PySem.W.exmOne K (.ref c_TooMany) (.ref c_InvalidActivity) = some false
  e_TooMany_TooMany : PySem.W.exmOne K (.ref c_TooMany) (.ref c_TooMany) = some true
section
variable {K : PySem.W.Frag} {mg : Str → Option Value}
theorem TX.b_is_integer (T : TX K mg) : Binds K T.fd_is_integer ["value"] [] := T.F_is_integer.binds (ps := ["value"]) fun _ _ _ _ _ _ us hl => match us, hl with | [_], _ => rfl
theorem TX.b_is_count (T : TX K mg) : Binds K T.fd_is_count ["value"] [] := T.F_is_count.binds (ps := ["value"]) fun _ _ _ _ _ _ us hl => match us, hl with | [_], _ => rfl
theorem TX.b_is_within (T : TX K mg) : Binds K T.fd_is_within ["value", "low", "high"] [] := T.F_is_within.binds (ps := ["value", "low", "high"]) fun _ _ _ _ _ _ us hl => match us, hl with | [_, _, _], _ => rfl
theorem TX.b_is_index (T : TX K mg) : Binds K T.fd_is_index ["value", "many"] [] := T.F_is_index.binds (ps := ["value", "many"]) fun _ _ _ _ _ _ us hl => match us, hl with | [_, _], _ => rfl
theorem TX.b_is_tuple (T : TX K mg) : Binds K T.fd_is_tuple ["value", "many"] [] := T.F_is_tuple.binds (ps := ["value", "many"]) fun _ _ _ _ _ _ us hl => match us, hl with | [_, _], _ => rfl
theorem TX.b_in_order (T : TX K mg) : Binds K T.fd_in_order ["items"] [] := T.F_in_order.binds (ps := ["items"]) fun _ _ _ _ _ _ us hl => match us, hl with | [_], _ => rfl
theorem TX.b_plus (T : TX K mg) : Binds K T.fd_plus ["one", "other"] [] := T.F_plus.binds (ps := ["one", "other"]) fun _ _ _ _ _ _ us hl => match us, hl with | [_, _], _ => rfl
theorem TX.b_is_later (T : TX K mg) : Binds K T.fd_is_later ["one", "other"] [] := T.F_is_later.binds (ps := ["one", "other"]) fun _ _ _ _ _ _ us hl => match us, hl with | [_, _], _ => rfl
theorem TX.b_is_activity (T : TX K mg) : Binds K T.fd_is_activity ["many", "value"] [] := T.F_is_activity.binds (ps := ["many", "value"]) fun _ _ _ _ _ _ us hl => match us, hl with | [_, _], _ => rfl
theorem TX.b_are_activities (T : TX K mg) : Binds K T.fd_are_activities ["many", "value"] [] := T.F_are_activities.binds (ps := ["many", "value"]) fun _ _ _ _ _ _ us hl => match us, hl with | [_, _], _ => rfl
theorem TX.b_coming_to (T : TX K mg) : Binds K T.fd_coming_to ["many", "activities"] [] := T.F_coming_to.binds (ps := ["many", "activities"]) fun _ _ _ _ _ _ us hl => match us, hl with | [_, _], _ => rfl
theorem TX.b_sorted_events (T : TX K mg) : Binds K T.fd_sorted_events ["many", "activities"] [] := T.F_sorted_events.binds (ps := ["many", "activities"]) fun _ _ _ _ _ _ us hl => match us, hl with | [_, _], _ => rfl
theorem TX.b_has_ring (T : TX K mg) : Binds K T.fd_has_ring ["many", "pairs"] [] := T.F_has_ring.binds (ps := ["many", "pairs"]) fun _ _ _ _ _ _ us hl => match us, hl with | [_, _], _ => rfl
theorem TX.b_is_plan (T : TX K mg) : Binds K T.fd_is_plan ["value"] [] := T.F_is_plan.binds (ps := ["value"]) fun _ _ _ _ _ _ us hl => match us, hl with | [_], _ => rfl
theorem TX.b_check_plan (T : TX K mg) : Binds K T.fd_check_plan ["plan"] [] := T.F_check_plan.binds (ps := ["plan"]) fun _ _ _ _ _ _ us hl => match us, hl with | [_], _ => rfl
theorem TX.b_plan_of (T : TX K mg) : Binds K T.fd_plan_of ["many", "activities"] [] := T.F_plan_of.binds (ps := ["many", "activities"]) fun _ _ _ _ _ _ us hl => match us, hl with | [_, _], _ => rfl
theorem TX.b_search (T : TX K mg) : Binds K T.fd_search ["many", "activities", "one"] [] := T.F_search.binds (ps := ["many", "activities", "one"]) fun _ _ _ _ _ _ us hl => match us, hl with | [_, _, _], _ => rfl
theorem TX.b_times_from (T : TX K mg) : Binds K T.fd_times_from ["many", "activities", "one"] [] := T.F_times_from.binds (ps := ["many", "activities", "one"]) fun _ _ _ _ _ _ us hl => match us, hl with | [_, _, _], _ => rfl
theorem TX.b_times_of (T : TX K mg) : Binds K T.fd_times_of ["plan"] [] := T.F_times_of.binds (ps := ["plan"]) fun _ _ _ _ _ _ us hl => match us, hl with | [_], _ => rfl
theorem TX.b_pairs_of (T : TX K mg) : Binds K T.fd_pairs_of ["found"] [] := T.F_pairs_of.binds (ps := ["found"]) fun _ _ _ _ _ _ us hl => match us, hl with | [_], _ => rfl
theorem TX.b_sums_between (T : TX K mg) : Binds K T.fd_sums_between ["found", "a", "b"] [] := T.F_sums_between.binds (ps := ["found", "a", "b"]) fun _ _ _ _ _ _ us hl => match us, hl with | [_, _, _], _ => rfl
theorem TX.b_closure (T : TX K mg) : Binds K T.fd_closure ["plan"] [] := T.F_closure.binds (ps := ["plan"]) fun _ _ _ _ _ _ us hl => match us, hl with | [_], _ => rfl
def kw_closure : List Value → List Value → List Value
  | [], [w0] => [w0]
  | _, _ => []
def kw_closureV : List V → List V → List V
  | [], [w0] => [w0]
  | _, _ => []
theorem TX.kb_closure (T : TX K mg) : KBinds K T.fd_closure ["plan"] ["plan"] kw_closure kw_closureV := by
  obtain ⟨oc, od, kV, doc, pm, an, cdv, ct, osl, e, lk, hcd⟩ := T.F_closure.ex
  refine ⟨fun s us ws X hl => ?_, fun {vs us zs ws} r1 r2 => ?_⟩
  · rw [e]; match us, ws, hl with | [], [_], _ => exact BindsTo.of_eq rfl
  · cases r1 with
    | cons _ _ => exact .nil
    | nil =>
      cases r2 with
      | nil => exact .nil
      | cons a0 q0 =>
        cases q0 with
        | cons _ _ => exact .nil
        | nil => exact .cons a0 (.nil)
theorem TX.b_is_spare (T : TX K mg) : Binds K T.fd_is_spare ["plan", "activity"] [] := T.F_is_spare.binds (ps := ["plan", "activity"]) fun _ _ _ _ _ _ us hl => match us, hl with | [_, _], _ => rfl
def kw_is_spare : List Value → List Value → List Value
  | [], [w0, w1] => [w1, w0]
  | _, _ => []
def kw_is_spareV : List V → List V → List V
  | [], [w0, w1] => [w1, w0]
  | _, _ => []
theorem TX.kb_is_spare (T : TX K mg) : KBinds K T.fd_is_spare ["plan", "activity"] ["activity", "plan"] kw_is_spare kw_is_spareV := by
  obtain ⟨oc, od, kV, doc, pm, an, cdv, ct, osl, e, lk, hcd⟩ := T.F_is_spare.ex
  refine ⟨fun s us ws X hl => ?_, fun {vs us zs ws} r1 r2 => ?_⟩
  · rw [e]; match us, ws, hl with | [], [_, _], _ => exact BindsTo.of_eq rfl
  · cases r1 with
    | cons _ _ => exact .nil
    | nil =>
      cases r2 with
      | nil => exact .nil
      | cons a0 q0 =>
        cases q0 with
        | nil => exact .nil
        | cons a1 q1 =>
          cases q1 with
          | cons _ _ => exact .nil
          | nil => exact .cons a1 (.cons a0 (.nil))
theorem TX.b_reduced (T : TX K mg) : Binds K T.fd_reduced ["plan"] [] := T.F_reduced.binds (ps := ["plan"]) fun _ _ _ _ _ _ us hl => match us, hl with | [_], _ => rfl
def kw_reduced : List Value → List Value → List Value
  | [], [w0] => [w0]
  | _, _ => []
def kw_reducedV : List V → List V → List V
  | [], [w0] => [w0]
  | _, _ => []
theorem TX.kb_reduced (T : TX K mg) : KBinds K T.fd_reduced ["plan"] ["plan"] kw_reduced kw_reducedV := by
  obtain ⟨oc, od, kV, doc, pm, an, cdv, ct, osl, e, lk, hcd⟩ := T.F_reduced.ex
  refine ⟨fun s us ws X hl => ?_, fun {vs us zs ws} r1 r2 => ?_⟩
  · rw [e]; match us, ws, hl with | [], [_], _ => exact BindsTo.of_eq rfl
  · cases r1 with
    | cons _ _ => exact .nil
    | nil =>
      cases r2 with
      | nil => exact .nil
      | cons a0 q0 =>
        cases q0 with
        | cons _ _ => exact .nil
        | nil => exact .cons a0 (.nil)
theorem TX.b_law_cell (T : TX K mg) : Binds K T.fd_law_cell ["script", "k"] [] := T.F_law_cell.binds (ps := ["script", "k"]) fun _ _ _ _ _ _ us hl => match us, hl with | [_, _], _ => rfl
theorem TX.b_law_box (T : TX K mg) : Binds K T.fd_law_box ["great"] [] := T.F_law_box.binds (ps := ["great"]) fun _ _ _ _ _ _ us hl => match us, hl with | [_], _ => rfl
theorem TX.b_law_take (T : TX K mg) : Binds K T.fd_law_take ["box", "many"] [] := T.F_law_take.binds (ps := ["box", "many"]) fun _ _ _ _ _ _ us hl => match us, hl with | [_, _], _ => rfl
theorem TX.b_law_mixed (T : TX K mg) : Binds K T.fd_law_mixed ["box", "items"] [] := T.F_law_mixed.binds (ps := ["box", "items"]) fun _ _ _ _ _ _ us hl => match us, hl with | [_, _], _ => rfl
theorem TX.b_law_same (T : TX K mg) : Binds K T.fd_law_same ["given", "due"] [] := T.F_law_same.binds (ps := ["given", "due"]) fun _ _ _ _ _ _ us hl => match us, hl with | [_, _], _ => rfl
theorem TX.b_law_times (T : TX K mg) : Binds K T.fd_law_times ["many", "activities"] [] := T.F_law_times.binds (ps := ["many", "activities"]) fun _ _ _ _ _ _ us hl => match us, hl with | [_, _], _ => rfl
theorem TX.b_law_duration (T : TX K mg) : Binds K T.fd_law_duration ["box", "great"] [] := T.F_law_duration.binds (ps := ["box", "great"]) fun _ _ _ _ _ _ us hl => match us, hl with | [_, _], _ => rfl
theorem TX.b_law_steps (T : TX K mg) : Binds K T.fd_law_steps ["box", "order", "count", "great"] [] := T.F_law_steps.binds (ps := ["box", "order", "count", "great"]) fun _ _ _ _ _ _ us hl => match us, hl with | [_, _, _, _], _ => rfl
theorem TX.b_law_plan (T : TX K mg) : Binds K T.fd_law_plan ["box", "wide", "great"] [] := T.F_law_plan.binds (ps := ["box", "wide", "great"]) fun _ _ _ _ _ _ us hl => match us, hl with | [_, _, _], _ => rfl
theorem TX.b_law_bad_plan (T : TX K mg) : Binds K T.fd_law_bad_plan ["box", "plan"] [] := T.F_law_bad_plan.binds (ps := ["box", "plan"]) fun _ _ _ _ _ _ us hl => match us, hl with | [_, _], _ => rfl
theorem TX.b_law_line (T : TX K mg) : Binds K T.fd_law_line ["box"] [] := T.F_law_line.binds (ps := ["box"]) fun _ _ _ _ _ _ us hl => match us, hl with | [_], _ => rfl
theorem TX.b_law_even (T : TX K mg) : Binds K T.fd_law_even ["box", "plan"] [] := T.F_law_even.binds (ps := ["box", "plan"]) fun _ _ _ _ _ _ us hl => match us, hl with | [_, _], _ => rfl
theorem TX.b_law_pairs (T : TX K mg) : Binds K T.fd_law_pairs ["rows"] [] := T.F_law_pairs.binds (ps := ["rows"]) fun _ _ _ _ _ _ us hl => match us, hl with | [_], _ => rfl
theorem TX.b_law_reduced (T : TX K mg) : Binds K T.fd_law_reduced ["plan"] [] := T.F_law_reduced.binds (ps := ["plan"]) fun _ _ _ _ _ _ us hl => match us, hl with | [_], _ => rfl
theorem TX.b_law_without (T : TX K mg) : Binds K T.fd_law_without ["plan", "at"] [] := T.F_law_without.binds (ps := ["plan", "at"]) fun _ _ _ _ _ _ us hl => match us, hl with | [_, _], _ => rfl
theorem TX.b_law_asked (T : TX K mg) : Binds K T.fd_law_asked ["which", "args", "turn"] [] := T.F_law_asked.binds (ps := ["which", "args", "turn"]) fun _ _ _ _ _ _ us hl => match us, hl with | [_, _, _], _ => rfl
theorem TX.b_law_plan_right (T : TX K mg) : Binds K T.fd_law_plan_right ["box", "plan", "other", "turn"] [] := T.F_law_plan_right.binds (ps := ["box", "plan", "other", "turn"]) fun _ _ _ _ _ _ us hl => match us, hl with | [_, _, _, _], _ => rfl
theorem TX.b_law_spare_right (T : TX K mg) : Binds K T.fd_law_spare_right ["box", "plan", "turn"] [] := T.F_law_spare_right.binds (ps := ["box", "plan", "turn"]) fun _ _ _ _ _ _ us hl => match us, hl with | [_, _, _], _ => rfl
theorem TX.b_law_refused_right (T : TX K mg) : Binds K T.fd_law_refused_right ["box", "plan", "turn"] [] := T.F_law_refused_right.binds (ps := ["box", "plan", "turn"]) fun _ _ _ _ _ _ us hl => match us, hl with | [_, _, _], _ => rfl
theorem TX.b_law (T : TX K mg) : Binds K T.fd_law ["script"] [] := T.F_law.binds (ps := ["script"]) fun _ _ _ _ _ _ us hl => match us, hl with | [_], _ => rfl
theorem TX.bi_InvalidPlan (T : TX K mg) : Binds K T.fdi_InvalidPlan ["self", "given"] [] := T.Fi_InvalidPlan.binds (ps := ["self", "given"]) fun _ _ _ _ _ _ us hl => match us, hl with | [_, _], _ => rfl
theorem TX.bi_InvalidActivity (T : TX K mg) : Binds K T.fdi_InvalidActivity ["self", "given"] [] := T.Fi_InvalidActivity.binds (ps := ["self", "given"]) fun _ _ _ _ _ _ us hl => match us, hl with | [_, _], _ => rfl
theorem TX.bi_TooMany (T : TX K mg) : Binds K T.fdi_TooMany ["self", "count"] [] := T.Fi_TooMany.binds (ps := ["self", "count"]) fun _ _ _ _ _ _ us hl => match us, hl with | [_, _], _ => rfl
end
end A69
end

section
set_option maxRecDepth 100000
set_option maxHeartbeats 2000000
/-! MP: plans: ways, longest times, tables, closures, reduced plans. Plain Lean, no program in sight. -/
namespace MP

abbrev Acty := Nat × Nat × Int
/-- a way from one event, and its length -/
inductive Way (acts : List Acty) (one : Nat) : Nat → Int → Prop
  | nil : Way acts one one 0
  | snoc {a b : Nat} {l d : Int} : Way acts one a l → (a, b, d) ∈ acts → Way acts one b (l + d)
/-- an order of the events along all activities -/
def Ranked (acts : List Acty) (r : Nat → Nat) : Prop := ∀ a b d, (a, b, d) ∈ acts → r a < r b
theorem Way.trans {acts : List Acty} {a b c : Nat} {l m : Int} (h : Way acts a b l) (g : Way acts b c m) : Way acts a c (l + m) := by
  induction g with
  | nil => simpa using h
  | snoc _ hm ih => rw [← Int.add_assoc]; exact .snoc ih hm
theorem Way.one {acts : List Acty} {a b : Nat} {d : Int} (h : (a, b, d) ∈ acts) : Way acts a b d := by
  have := Way.snoc (.nil : Way acts a a 0) h
  simpa using this
theorem Way.sub {acts acts' : List Acty} (hs : ∀ x, x ∈ acts → x ∈ acts') {a b : Nat} {l : Int} (h : Way acts a b l) : Way acts' a b l := by
  induction h with
  | nil => exact .nil
  | snoc _ hm ih => exact .snoc ih (hs _ hm)
theorem Way.rank {acts : List Acty} {r : Nat → Nat} (hr : Ranked acts r) {a b : Nat} {l : Int} (h : Way acts a b l) : (a = b ∧ l = 0) ∨ r a < r b := by
  induction h with
  | nil => exact .inl ⟨rfl, rfl⟩
  | snoc _ hm ih =>
    have := hr _ _ _ hm
    rcases ih with ⟨rfl, _⟩ | ih
    · exact .inr this
    · exact .inr (by omega)
theorem Way.last {acts : List Acty} {a b : Nat} {l : Int} (h : Way acts a b l) : (a = b ∧ l = 0) ∨ ∃ c l' d, Way acts a c l' ∧ (c, b, d) ∈ acts ∧ l = l' + d := by
  cases h with
  | nil => exact .inl ⟨rfl, rfl⟩
  | snoc h hm => exact .inr ⟨_, _, _, h, hm, rfl⟩
theorem Way.bound {acts : List Acty} {n : Nat} (hb : ∀ a b d, (a, b, d) ∈ acts → a < n ∧ b < n) {a b : Nat} {l : Int} (h : Way acts a b l) : a = b ∨ (a < n ∧ b < n) := by
  induction h with
  | nil => exact .inl rfl
  | snoc _ hm ih =>
    have := hb _ _ _ hm
    rcases ih with rfl | ih
    · exact .inr this
    · exact .inr ⟨ih.1, this.2⟩

/-- the longest time from one event to another: none without a way -/
structure IsT (acts : List Acty) (a b : Nat) (o : Option Int) : Prop where
  most : ∀ l, Way acts a b l → ∃ m, o = some m ∧ l ≤ m
  way : ∀ m, o = some m → Way acts a b m
theorem IsT.uniq {acts : List Acty} {a b : Nat} {o p : Option Int} (h : IsT acts a b o) (g : IsT acts a b p) : o = p := by
  cases o with
  | none =>
    cases p with
    | none => rfl
    | some m => obtain ⟨_, e, _⟩ := h.most m (g.way m rfl); cases e
  | some l =>
    obtain ⟨m, e, h1⟩ := g.most l (h.way l rfl)
    subst e
    obtain ⟨l', e, h2⟩ := h.most m (g.way m rfl)
    cases e
    exact congrArg some (by omega)
theorem IsT.self {acts : List Acty} {r : Nat → Nat} (hr : Ranked acts r) {a : Nat} {o : Option Int} (h : IsT acts a a o) : o = some 0 := by
  obtain ⟨m, e, h1⟩ := h.most 0 .nil
  rcases (h.way m e).rank hr with ⟨_, h2⟩ | h2
  · rw [e, h2]
  · omega

/-- the item of a table -/
def at2 (rows : List (List (Option Int))) (a b : Nat) : Option Int := ((rows[a]?).bind fun r => r[b]?).join
structure IsTab (n : Nat) (acts : List Acty) (rows : List (List (Option Int))) : Prop where
  len : rows.length = n
  row : ∀ r ∈ rows, r.length = n
  at_ : ∀ a b, a < n → b < n → IsT acts a b (at2 rows a b)
theorem tab_ext {n : Nat} {r1 r2 : List (List (Option Int))} (l1 : r1.length = n) (l2 : r2.length = n) (w1 : ∀ r ∈ r1, r.length = n) (w2 : ∀ r ∈ r2, r.length = n)
    (h : ∀ a b, a < n → b < n → at2 r1 a b = at2 r2 a b) : r1 = r2 := by
  apply List.ext_getElem (by omega)
  intro i h1 h2
  apply List.ext_getElem (by rw [w1 _ (List.getElem_mem h1), w2 _ (List.getElem_mem h2)])
  intro j g1 g2
  have := h i j (by omega) (by rw [← w1 _ (List.getElem_mem h1)]; exact g1)
  simpa [at2, List.getElem?_eq_getElem h1, List.getElem?_eq_getElem h2, List.getElem?_eq_getElem g1, List.getElem?_eq_getElem g2] using this
theorem IsTab.uniq {n : Nat} {acts : List Acty} {r1 r2 : List (List (Option Int))} (h : IsTab n acts r1) (g : IsTab n acts r2) : r1 = r2 :=
  tab_ext h.len g.len h.row g.row fun a b ha hb => (h.at_ a b ha hb).uniq (g.at_ a b ha hb)

/-! ### closures and reduced plans, by a table -/
def pairsR (n : Nat) (rows : List (List (Option Int))) : List (Nat × Nat) :=
  (List.range n).flatMap fun a => ((List.range n).filter fun b => a != b && (at2 rows a b).isSome).map fun b => (a, b)
def withD (rows : List (List (Option Int))) (p : Nat × Nat) : Acty := (p.1, p.2, (at2 rows p.1 p.2).getD 0)
def closR (n : Nat) (rows : List (List (Option Int))) : List Acty := (pairsR n rows).map (withD rows)
/-- no third event on a longest way -/
def tight (n : Nat) (rows : List (List (Option Int))) (p : Nat × Nat) : Bool :=
  (List.range n).all fun c => c == p.1 || c == p.2 || match at2 rows p.1 c, at2 rows c p.2 with
    | some x, some y => decide (x + y < (at2 rows p.1 p.2).getD 0)
    | _, _ => true
def redR (n : Nat) (rows : List (List (Option Int))) : List Acty := ((pairsR n rows).filter (tight n rows)).map (withD rows)
theorem mem_pairsR {n : Nat} {rows : List (List (Option Int))} {a b : Nat} : (a, b) ∈ pairsR n rows ↔ a < n ∧ b < n ∧ a ≠ b ∧ (at2 rows a b).isSome = true := by
  simp only [pairsR, List.mem_flatMap, List.mem_range, List.mem_map, List.mem_filter, Bool.and_eq_true, bne_iff_ne, ne_eq, Prod.mk.injEq]
  constructor
  · rintro ⟨x, hx, y, ⟨hy, hne, hs⟩, rfl, rfl⟩
    exact ⟨hx, hy, hne, hs⟩
  · rintro ⟨h1, h2, h3, h4⟩
    exact ⟨a, h1, b, ⟨h2, h3, h4⟩, rfl, rfl⟩
theorem mem_closR {n : Nat} {rows : List (List (Option Int))} {a b : Nat} {d : Int} : (a, b, d) ∈ closR n rows ↔ a < n ∧ b < n ∧ a ≠ b ∧ at2 rows a b = some d := by
  simp only [closR, List.mem_map, withD, Prod.mk.injEq]
  constructor
  · rintro ⟨⟨x, y⟩, hm, rfl, rfl, rfl⟩
    obtain ⟨h1, h2, h3, h4⟩ := mem_pairsR.mp hm
    obtain ⟨m, e⟩ := Option.isSome_iff_exists.mp h4
    simp only at e ⊢
    exact ⟨h1, h2, h3, by rw [e]; rfl⟩
  · rintro ⟨h1, h2, h3, h4⟩
    exact ⟨(a, b), mem_pairsR.mpr ⟨h1, h2, h3, by rw [h4]; rfl⟩, rfl, rfl, by rw [h4]; rfl⟩
theorem tight_iff {n : Nat} {rows : List (List (Option Int))} {a b : Nat} {d : Int} (e : at2 rows a b = some d) :
    tight n rows (a, b) = true ↔ ∀ c, c < n → c ≠ a → c ≠ b → ∀ x y, at2 rows a c = some x → at2 rows c b = some y → x + y < d := by
  simp only [tight, List.all_eq_true, List.mem_range, Bool.or_eq_true, beq_iff_eq, e, Option.getD_some]
  constructor
  · intro h c hc ha hb x y e1 e2
    have := h c hc
    rw [e1, e2] at this
    simpa [ha, hb] using this
  · intro h c hc
    by_cases ha : c = a
    · exact .inl (.inl ha)
    · by_cases hb : c = b
      · exact .inl (.inr hb)
      · right
        cases e1 : at2 rows a c with
        | none => rfl
        | some x =>
          cases e2 : at2 rows c b with
          | none => rfl
          | some y => simpa using h c hc ha hb x y e1 e2
theorem mem_redR {n : Nat} {rows : List (List (Option Int))} {a b : Nat} {d : Int} : (a, b, d) ∈ redR n rows ↔ (a < n ∧ b < n ∧ a ≠ b ∧ at2 rows a b = some d) ∧
    ∀ c, c < n → c ≠ a → c ≠ b → ∀ x y, at2 rows a c = some x → at2 rows c b = some y → x + y < d := by
  constructor
  · intro h
    have hc : (a, b, d) ∈ closR n rows := by
      simp only [redR, List.mem_map, List.mem_filter] at h
      obtain ⟨p, ⟨hp, _⟩, e⟩ := h
      exact List.mem_map.mpr ⟨p, hp, e⟩
    have hc' := mem_closR.mp hc
    refine ⟨hc', (tight_iff hc'.2.2.2).mp ?_⟩
    simp only [redR, List.mem_map, List.mem_filter, withD, Prod.mk.injEq] at h
    obtain ⟨⟨x, y⟩, ⟨_, ht⟩, rfl, rfl, _⟩ := h
    exact ht
  · rintro ⟨h1, h2⟩
    simp only [redR, List.mem_map, List.mem_filter, withD, Prod.mk.injEq]
    exact ⟨(a, b), ⟨mem_pairsR.mpr ⟨h1.1, h1.2.1, h1.2.2.1, by rw [h1.2.2.2]; rfl⟩, (tight_iff h1.2.2.2).mpr h2⟩, rfl, rfl, by rw [h1.2.2.2]; rfl⟩

section
variable {n : Nat} {acts : List Acty} {rows : List (List (Option Int))} {r : Nat → Nat}
theorem IsTab.closR_way (h : IsTab n acts rows) {a b : Nat} {l : Int} (w : Way (closR n rows) a b l) : Way acts a b l := by
  induction w with
  | nil => exact .nil
  | snoc _ hm ih =>
    obtain ⟨h1, h2, _, h4⟩ := mem_closR.mp hm
    exact ih.trans ((h.at_ _ _ h1 h2).way _ h4)
theorem IsTab.redR_clos {a b : Nat} {d : Int} (h : (a, b, d) ∈ redR n rows) : (a, b, d) ∈ closR n rows := mem_closR.mpr (mem_redR.mp h).1
theorem IsTab.rankC (h : IsTab n acts rows) (hr : Ranked acts r) : Ranked (closR n rows) r := fun a b d hm => by
  obtain ⟨h1, h2, h3, h4⟩ := mem_closR.mp hm
  rcases ((h.at_ _ _ h1 h2).way _ h4).rank hr with ⟨e, _⟩ | e
  · exact absurd e h3
  · exact e
theorem IsTab.rankR (h : IsTab n acts rows) (hr : Ranked acts r) : Ranked (redR n rows) r := fun a b d hm => h.rankC hr a b d (IsTab.redR_clos hm)
theorem IsTab.self (h : IsTab n acts rows) (hr : Ranked acts r) {a : Nat} (ha : a < n) : at2 rows a a = some 0 := (h.at_ a a ha ha).self hr
/-- the closure has the same times -/
theorem IsTab.clos (h : IsTab n acts rows) (hr : Ranked acts r) : IsTab n (closR n rows) rows := by
  refine ⟨h.len, h.row, fun a b ha hb => ⟨fun l w => (h.at_ a b ha hb).most l (h.closR_way w), fun m e => ?_⟩⟩
  by_cases hab : a = b
  · subst hab
    rw [h.self hr ha] at e
    cases e
    exact .nil
  · exact Way.one (mem_closR.mpr ⟨ha, hb, hab, e⟩)
/-- ways of the reduced plan reach each time -/
theorem IsTab.red_way (h : IsTab n acts rows) (hr : Ranked acts r) : ∀ (k a b : Nat), r b - r a ≤ k → a < n → b < n → ∀ m, at2 rows a b = some m → Way (redR n rows) a b m := by
  intro k
  induction k with
  | zero =>
    intro a b hk ha hb m e
    rcases ((h.at_ a b ha hb).way m e).rank hr with ⟨rfl, rfl⟩ | q
    · exact .nil
    · omega
  | succ k ih =>
    intro a b hk ha hb m e
    rcases ((h.at_ a b ha hb).way m e).rank hr with ⟨rfl, rfl⟩ | q
    · exact .nil
    · by_cases ht : tight n rows (a, b) = true
      · exact Way.one (mem_redR.mpr ⟨⟨ha, hb, fun z => by rw [z] at q; omega, e⟩, (tight_iff e).mp ht⟩)
      · have : ∃ c, c < n ∧ c ≠ a ∧ c ≠ b ∧ ∃ x y, at2 rows a c = some x ∧ at2 rows c b = some y ∧ m ≤ x + y := by
          apply Classical.byContradiction
          intro hn
          refine ht ((tight_iff e).mpr fun c hc h1 h2 x y e1 e2 => ?_)
          apply Classical.byContradiction
          intro hlt
          exact hn ⟨c, hc, h1, h2, x, y, e1, e2, by omega⟩
        obtain ⟨c, hc, h1, h2, x, y, e1, e2, hm⟩ := this
        have w1 := (h.at_ a c ha hc).way x e1
        have w2 := (h.at_ c b hc hb).way y e2
        obtain ⟨m', e', hle⟩ := (h.at_ a b ha hb).most _ (w1.trans w2)
        rw [e] at e'
        cases e'
        have r1 : r a < r c := by
          rcases w1.rank hr with ⟨z, _⟩ | z
          · exact absurd z.symm h1
          · exact z
        have r2 : r c < r b := by
          rcases w2.rank hr with ⟨z, _⟩ | z
          · exact absurd z h2
          · exact z
        have em : m = x + y := by omega
        rw [em]
        exact (ih a c (by omega) ha hc x e1).trans (ih c b (by omega) hc hb y e2)
/-- the reduced plan has the same times -/
theorem IsTab.red (h : IsTab n acts rows) (hr : Ranked acts r) : IsTab n (redR n rows) rows :=
  ⟨h.len, h.row, fun a b ha hb => ⟨fun l w => (h.at_ a b ha hb).most l (h.closR_way (w.sub fun _ hm => IsTab.redR_clos hm)), fun m e => h.red_way hr _ a b (Nat.le_refl _) ha hb m e⟩⟩
/-- each activity of the reduced plan is one of the plan -/
theorem IsTab.red_mem (h : IsTab n acts rows) (hr : Ranked acts r) (hb : ∀ a b d, (a, b, d) ∈ acts → a < n ∧ b < n) {a b : Nat} {d : Int} (hm : (a, b, d) ∈ redR n rows) : (a, b, d) ∈ acts := by
  obtain ⟨⟨h1, h2, h3, h4⟩, h5⟩ := mem_redR.mp hm
  rcases ((h.at_ a b h1 h2).way d h4).last with ⟨e, _⟩ | ⟨c, l, d', w, hc, e⟩
  · exact absurd e h3
  · obtain ⟨hcn, _⟩ := hb _ _ _ hc
    have rc := hr _ _ _ hc
    have hcb : c ≠ b := fun z => by rw [z] at rc; omega
    by_cases hca : c = a
    · subst hca
      rcases w.rank hr with ⟨_, q⟩ | q
      · rw [e, q]; simpa using hc
      · omega
    · obtain ⟨x, ex, hx⟩ := (h.at_ a c h1 hcn).most l w
      obtain ⟨y, ey, hy⟩ := (h.at_ c b hcn h2).most d' (Way.one hc)
      have := h5 c hcn hca hcb x y ex ey
      omega
/-- without one of its activities other times come -/
theorem IsTab.red_less (h : IsTab n acts rows) (hr : Ranked acts r) {less : List Acty} {a b : Nat} {d : Int} (hm : (a, b, d) ∈ redR n rows) (hs : ∀ x, x ∈ less → x ∈ redR n rows) (hno : (a, b, d) ∉ less)
    (g : IsTab n less rows) : False := by
  obtain ⟨⟨h1, h2, h3, h4⟩, h5⟩ := mem_redR.mp hm
  have rR := h.rankR hr
  rcases ((g.at_ a b h1 h2).way d h4).last with ⟨e, _⟩ | ⟨c, l, d', w, hc, e⟩
  · exact absurd e h3
  · have hc' := hs _ hc
    have hcn := (mem_redR.mp hc').1.1
    have rc := rR _ _ _ hc'
    have hcb : c ≠ b := fun z => by rw [z] at rc; omega
    by_cases hca : c = a
    · subst hca
      rcases (w.sub hs).rank rR with ⟨_, q⟩ | q
      · rw [q, Int.zero_add] at e
        subst e
        exact hno hc
      · omega
    · obtain ⟨x, ex, hx⟩ := (g.at_ a c h1 hcn).most l w
      obtain ⟨y, ey, hy⟩ := (g.at_ c b hcn h2).most d' (Way.one hc)
      have := h5 c hcn hca hcb x y ex ey
      omega
end
end MP
end

section
set_option maxRecDepth 100000
set_option maxHeartbeats 2000000
/-! MP2: longest times exist; the table of all times. -/
namespace MP
theorem lastP {acts : List Acty} {a b : Nat} {l : Int} (w : Way acts a b l) : (a = b ∧ l = 0) ∨ ∃ c l' d, (c, b, d) ∈ acts ∧ Way acts a c l' ∧ l = l' + d := by
  rcases w.last with ⟨z, e⟩ | ⟨c, l', d, w', hm, e⟩
  · exact .inl ⟨z, e⟩
  · exact .inr ⟨c, l', d, hm, w', e⟩
/-- there is a longest time, where there is an order -/
theorem isT_exists {acts : List Acty} {r : Nat → Nat} (hr : Ranked acts r) (a : Nat) : ∀ (k b : Nat), r b ≤ k → ∃ o, IsT acts a b o := by
  have part : ∀ b, (∀ c d, (c, b, d) ∈ acts → ∃ o, IsT acts a c o) → ∀ L : List Acty, (∀ x ∈ L, x ∈ acts) →
      ∃ o : Option Int, (∀ l, ((a = b ∧ l = 0) ∨ ∃ c l' d, (c, b, d) ∈ L ∧ Way acts a c l' ∧ l = l' + d) → ∃ m, o = some m ∧ l ≤ m) ∧ ∀ m, o = some m → Way acts a b m := by
    intro b hc L
    induction L with
    | nil =>
      intro _
      by_cases hab : a = b
      · subst hab
        refine ⟨some 0, fun l h => ?_, fun m e => by cases e; exact .nil⟩
        rcases h with ⟨_, rfl⟩ | ⟨_, _, _, hm, _⟩
        · exact ⟨0, rfl, Int.le_refl _⟩
        · cases hm
      · refine ⟨none, fun l h => ?_, fun m e => nomatch e⟩
        rcases h with ⟨z, _⟩ | ⟨_, _, _, hm, _⟩
        · exact absurd z hab
        · cases hm
    | cons x L ih =>
      intro hs
      obtain ⟨o, h1, h2⟩ := ih fun y hy => hs y (List.mem_cons_of_mem _ hy)
      obtain ⟨c, b', d⟩ := x
      by_cases hb : b' = b
      · subst hb
        have hx : (c, b', d) ∈ acts := hs _ List.mem_cons_self
        obtain ⟨oc, hoc⟩ := hc c d hx
        cases oc with
        | none =>
          refine ⟨o, fun l h => ?_, h2⟩
          rcases h with h | ⟨c', l', d', hm, w, e⟩
          · exact h1 l (.inl h)
          · rcases List.mem_cons.mp hm with q | q
            · cases q
              obtain ⟨m, z, _⟩ := hoc.most _ w
              cases z
            · exact h1 l (.inr ⟨c', l', d', q, w, e⟩)
        | some mc =>
          have wc := hoc.way mc rfl
          have new : Way acts a b' (mc + d) := .snoc wc hx
          have bound : ∀ l', Way acts a c l' → l' ≤ mc := fun l' w => by
            obtain ⟨m, z, hle⟩ := hoc.most _ w
            cases z
            exact hle
          cases o with
          | none =>
            refine ⟨some (mc + d), fun l h => ?_, fun m e => by cases e; exact new⟩
            rcases h with h | ⟨c', l', d', hm, w, e⟩
            · obtain ⟨m, z, _⟩ := h1 l (.inl h); cases z
            · rcases List.mem_cons.mp hm with q | q
              · cases q
                have := bound l' w
                exact ⟨_, rfl, by omega⟩
              · obtain ⟨m, z, _⟩ := h1 l (.inr ⟨c', l', d', q, w, e⟩); cases z
          | some mo =>
            refine ⟨some (max mo (mc + d)), fun l h => ?_, fun m e => ?_⟩
            · refine ⟨_, rfl, ?_⟩
              rcases h with h | ⟨c', l', d', hm, w, e⟩
              · obtain ⟨m, z, hle⟩ := h1 l (.inl h); cases z; omega
              · rcases List.mem_cons.mp hm with q | q
                · cases q
                  have := bound l' w
                  omega
                · obtain ⟨m, z, hle⟩ := h1 l (.inr ⟨c', l', d', q, w, e⟩); cases z; omega
            · cases e
              rcases Int.le_total mo (mc + d) with q | q
              · rw [Int.max_eq_right q]; exact new
              · rw [Int.max_eq_left q]; exact h2 mo rfl
      · refine ⟨o, fun l h => ?_, h2⟩
        rcases h with h | ⟨c', l', d', hm, w, e⟩
        · exact h1 l (.inl h)
        · rcases List.mem_cons.mp hm with q | q
          · cases q; exact absurd rfl hb
          · exact h1 l (.inr ⟨c', l', d', q, w, e⟩)
  intro k
  induction k with
  | zero =>
    intro b hk
    obtain ⟨o, h1, h2⟩ := part b (fun c d hm => by have := hr _ _ _ hm; omega) acts fun _ h => h
    exact ⟨o, ⟨fun l w => h1 l (lastP w), h2⟩⟩
  | succ k ih =>
    intro b hk
    obtain ⟨o, h1, h2⟩ := part b (fun c d hm => ih c (by have := hr _ _ _ hm; omega)) acts fun _ h => h
    exact ⟨o, ⟨fun l w => h1 l (lastP w), h2⟩⟩
open Classical in
noncomputable def timeC (acts : List Acty) (a b : Nat) : Option Int := if h : ∃ o, IsT acts a b o then choose h else none
theorem timeC_of {acts : List Acty} {a b : Nat} {o : Option Int} (h : IsT acts a b o) : timeC acts a b = o := by
  have hx : ∃ o, IsT acts a b o := ⟨o, h⟩
  unfold timeC
  rw [dif_pos hx]
  exact (Classical.choose_spec hx).uniq h
theorem timeC_is {acts : List Acty} {r : Nat → Nat} (hr : Ranked acts r) (a b : Nat) : IsT acts a b (timeC acts a b) := by
  obtain ⟨o, h⟩ := isT_exists hr a (r b) b (Nat.le_refl _)
  rw [timeC_of h]; exact h
noncomputable def rowC (n : Nat) (acts : List Acty) (a : Nat) : List (Option Int) := (List.range n).map (timeC acts a)
noncomputable def tabC (n : Nat) (acts : List Acty) : List (List (Option Int)) := (List.range n).map (rowC n acts)
theorem tabC_is {n : Nat} {acts : List Acty} (hr : ∃ r, Ranked acts r) : IsTab n acts (tabC n acts) := by
  obtain ⟨r, hr⟩ := hr
  refine ⟨by simp [tabC], fun x hx => ?_, fun a b ha hb => ?_⟩
  · simp only [tabC, List.mem_map, List.mem_range] at hx
    obtain ⟨a, _, rfl⟩ := hx
    simp [rowC]
  · have : at2 (tabC n acts) a b = timeC acts a b := by simp [at2, tabC, rowC, ha, hb]
    rw [this]
    exact timeC_is hr a b
end MP
end

section
set_option maxRecDepth 100000
set_option maxHeartbeats 1000000
/-! S69: what each def of the program promises. -/
namespace A69
open PySem PySem.Spec PyProof.Rows L2 KX MP

/-! ### data of the programs -/
def eA (a : Acty) : PyData := .tuple [.int a.1, .int a.2.1, .int a.2.2]
def eAs (l : List Acty) : PyData := .tuple (l.map eA)
def eP (n : Nat) (l : List Acty) : PyData := .tuple [.int n, eAs l]
def eRow (r : List (Option Int)) : PyData := .tuple (r.map eO)
def eT (rows : List (List (Option Int))) : PyData := .tuple (rows.map eRow)
def e2 (p : Nat × Nat) : PyData := .tuple [.int p.1, .int p.2]
def toL (a : Acty) : List Int := [(a.1 : Int), (a.2.1 : Int), a.2.2]
def leA (a b : Acty) : Bool := leL (toL a) (toL b)
def inOrder : List Acty → Bool
  | a :: b :: r => leA a b && inOrder (b :: r)
  | _ => true
structure GoodA (n : Nat) (acts : List Acty) : Prop where
  n20 : n ≤ 20
  most : acts.length ≤ 120
  ev : ∀ a b d, (a, b, d) ∈ acts → a < n ∧ b < n ∧ a ≠ b ∧ 0 ≤ d
structure Valid (n : Nat) (acts : List Acty) : Prop where
  n1 : 1 ≤ n
  good : GoodA n acts
  ord : inOrder acts = true
  rank : ∃ r, Ranked acts r
def IsPlan (d : PyData) : Prop := ∃ n acts, d = eP n acts ∧ Valid n acts

/-! ### kinds -/
def isInteger (d : PyData) : Bool := isIntD d && !isBl d
def isCount : PyData → Bool
  | .int i => decide (0 ≤ i)
  | _ => false
def isWithin (lo hi : Int) : PyData → Bool
  | .int i => decide (lo ≤ i) && decide (i ≤ hi)
  | _ => false
def isIndex (many : Int) : PyData → Bool
  | .int i => decide (0 ≤ i) && decide (i < many)
  | _ => false
def isTupN (many : Int) : PyData → Bool
  | .tuple ds => decide ((ds.length : Int) = many)
  | _ => false
def isAct (many : Int) : PyData → Bool
  | .tuple [.int a, .int b, z] => isIndex many (.int a) && isIndex many (.int b) && decide (a ≠ b) && isCount z
  | _ => false
def plusO : Option Int → Option Int → Option Int
  | some a, some b => some (a + b)
  | _, _ => none
def laterO : Option Int → Option Int → Bool
  | some a, some b => decide (b < a)
  | some _, none => true
  | none, _ => false
def comingL (acts : List Acty) (b : Nat) : List Nat := (List.range acts.length).filter fun k => ((acts[k]?).map fun a => a.2.1) == some b
/-- events in an order along the activities, as many as there may be -/
structure Topo (n : Nat) (acts : List Acty) (F : List Nat) : Prop where
  nd : F.Nodup
  lt : ∀ e ∈ F, e < n
  ord : ∀ i b, F[i]? = some b → ∀ a d, (a, b, d) ∈ acts → a ∈ F.take i
  most : ∀ b, b < n → b ∉ F → ∃ a d, (a, b, d) ∈ acts ∧ a ∉ F
def sumsR (n : Nat) (rows : List (List (Option Int))) (a b : Nat) : List Int :=
  (((List.range n).filter fun c => c != a && c != b).map fun c => plusO (at2 rows a c) (at2 rows c b)).filterMap id

section
variable {K : PySem.W.Frag} {mg : Str → Option Value}
/-- an error with one field leaves -/
def Throws (E : XK) (H : Hp) (C : Addr) (f : Str) (v : V) : Prop := ∀ H' e, Same H H' → H e = none → H' e = some (.xd [(f, v)]) → E (.ref C) (some e) H'
def sp_init (C : Addr) (f : Str) (K : PySem.W.Frag) : Sp := fun vs H Q _ => ∃ a v, vs = [.ref a, v] ∧ H a = some (exo a C none) ∧
  ∀ dx, H dx = none → dx ≠ a → Q .non (upd (upd H dx (exd dx [(f, v)])) a (exo a C (some dx)))
def sp_init_InvalidPlan (T : TX K mg) : Sp := sp_init T.c_InvalidPlan "given" K
def sp_init_InvalidActivity (T : TX K mg) : Sp := sp_init T.c_InvalidActivity "given" K
def sp_init_TooMany (T : TX K mg) : Sp := sp_init T.c_TooMany "count" K
def sp_is_integer (T : TX K mg) : Sp := fun vs H Q _ => ∃ v d, vs = [v] ∧ Dp K H v d ∧ Q (.bl (isInteger d)) H
def sp_is_count (T : TX K mg) : Sp := fun vs H Q _ => ∃ v d, vs = [v] ∧ Dp K H v d ∧ Q (.bl (isCount d)) H
def sp_is_within (T : TX K mg) : Sp := fun vs H Q _ => ∃ v d lo hi, vs = [v, .int lo, .int hi] ∧ Dp K H v d ∧ Q (.bl (isWithin lo hi d)) H
def sp_is_index (T : TX K mg) : Sp := fun vs H Q _ => ∃ v d many, vs = [v, .int many] ∧ Dp K H v d ∧ Q (.bl (isIndex many d)) H
def sp_is_tuple (T : TX K mg) : Sp := fun vs H Q _ => ∃ v d many, vs = [v, .int many] ∧ Dp K H v d ∧ Q (.bl (isTupN many d)) H
def sp_in_order (T : TX K mg) : Sp := fun vs H Q _ => ∃ v acts, vs = [v] ∧ Dp K H v (eAs acts) ∧ acts.length ≤ 120 ∧ ∀ H', Same H H' → Q (.bl (inOrder acts)) H'
def sp_plus (T : TX K mg) : Sp := fun vs H Q _ => ∃ x y, vs = [vO x, vO y] ∧ Q (vO (plusO x y)) H
def sp_is_later (T : TX K mg) : Sp := fun vs H Q _ => ∃ x y, vs = [vO x, vO y] ∧ Q (.bl (laterO x y)) H
def sp_is_activity (T : TX K mg) : Sp := fun vs H Q _ => ∃ v d many, vs = [.int many, v] ∧ Dp K H v d ∧ Q (.bl (isAct many d)) H
def sp_are_activities (T : TX K mg) : Sp := fun vs H Q _ => ∃ v ds many, vs = [.int many, v] ∧ Dp K H v (.tuple ds) ∧ ∀ H', Same H H' → Q (.bl (decide (ds.length ≤ 120) && ds.all (isAct many))) H'
/-- at p: a new list of new lists, those of what comes to each event -/
structure Coming (acts : List Acty) (n : Nat) (H H' : Hp) (p : Addr) (ps : List Addr) : Prop where
  new : H p = none
  at_ : H' p = some (.lst (ps.map V.ref))
  len : ps.length = n
  nd : ps.Nodup
  fresh : ∀ q ∈ ps, H q = none ∧ q ≠ p
  lists : ∀ i q, ps[i]? = some q → H' q = some (.lst (nats (comingL acts i)))
def sp_coming_to (T : TX K mg) : Sp := fun vs H Q _ => ∃ n v acts, vs = [.int (n : Nat), v] ∧ Dp K H v (eAs acts) ∧ GoodA n acts ∧ ∀ H' p ps, Same H H' → Coming acts n H H' p ps → Q (.ref p) H'
def sp_sorted_events (T : TX K mg) : Sp := fun vs H Q _ => ∃ n v acts, vs = [.int (n : Nat), v] ∧ Dp K H v (eAs acts) ∧ GoodA n acts ∧
  ∀ H' p F, Same H H' → H p = none → H' p = some (.lst (nats F)) → Topo n acts F → Q (.ref p) H'
def sp_has_ring (T : TX K mg) : Sp := fun vs H Q _ => ∃ n v acts, vs = [.int (n : Nat), v] ∧ Dp K H v (eAs acts) ∧ GoodA n acts ∧ ∀ H' b, Same H H' → (b = false ↔ ∃ r, Ranked acts r) → Q (.bl b) H'
def sp_is_plan (T : TX K mg) : Sp := fun vs H Q _ => ∃ v d, vs = [v] ∧ Dp K H v d ∧ ∀ H' b, Same H H' → (b = true ↔ IsPlan d) → Q (.bl b) H'
def sp_check_plan (T : TX K mg) : Sp := fun vs H Q E => ∃ v d, vs = [v] ∧ Dp K H v d ∧ (IsPlan d → ∀ H', Same H H' → Q .non H') ∧ (¬ IsPlan d → Throws E H T.c_InvalidPlan "given" v)
def sp_plan_of (T : TX K mg) : Sp := fun vs H Q _ => ∃ (n : Nat) (a : Addr) (xs : List V) (acts : List Acty), vs = [.int n, .ref a] ∧ SqL K H a xs ∧ DpAll K H xs (acts.map eA) ∧ acts.length ≤ 1000 ∧ ∀ H' v, Same H H' → Dp K H' v (eP n (acts.mergeSort leA)) → Q v H'
structure Found (acts : List Acty) (n one : Nat) (os : List (Option Int)) : Prop where
  len : os.length = n
  at_ : ∀ b, b < n → ∀ o, os[b]? = some o → IsT acts one b o
def sp_search (T : TX K mg) : Sp := fun vs H Q _ => ∃ n v acts one, vs = [.int (n : Nat), v, .int (one : Nat)] ∧ Dp K H v (eAs acts) ∧ GoodA n acts ∧ (∃ r, Ranked acts r) ∧ one < n ∧
  ∀ H' t p q os, Same H H' → H p = none → H' t = some (.tup [.ref p, q]) → H' p = some (.lst (os.map vO)) → Found acts n one os → Q (.ref t) H'
def sp_times_from (T : TX K mg) : Sp := fun vs H Q _ => ∃ n v acts one, vs = [.int (n : Nat), v, .int (one : Nat)] ∧ Dp K H v (eAs acts) ∧ GoodA n acts ∧ (∃ r, Ranked acts r) ∧ one < n ∧
  ∀ H' p os, Same H H' → H p = none → H' p = some (.lst (os.map vO)) → Found acts n one os → Q (.ref p) H'
def sp_times_of (T : TX K mg) : Sp := fun vs H Q _ => ∃ v n acts, vs = [v] ∧ Dp K H v (eP n acts) ∧ GoodA n acts ∧ (∃ r, Ranked acts r) ∧ ∀ H' v' rows, Same H H' → IsTab n acts rows → Dp K H' v' (eT rows) → Q v' H'
def Square (n : Nat) (rows : List (List (Option Int))) : Prop := rows.length = n ∧ ∀ r ∈ rows, r.length = n
def sp_pairs_of (T : TX K mg) : Sp := fun vs H Q _ => ∃ v n rows, vs = [v] ∧ Dp K H v (eT rows) ∧ Square n rows ∧ n ≤ 20 ∧
  ∀ H' p xs, Same H H' → H p = none → H' p = some (.lst xs) → DpAll K H' xs ((pairsR n rows).map e2) → Q (.ref p) H'
def sp_sums_between (T : TX K mg) : Sp := fun vs H Q _ => ∃ v n rows a b, vs = [v, .int (a : Nat), .int (b : Nat)] ∧ Dp K H v (eT rows) ∧ Square n rows ∧ n ≤ 20 ∧ a < n ∧ b < n ∧
  ∀ H' p, Same H H' → H p = none → H' p = some (.lst ((sumsR n rows a b).map V.int)) → Q (.ref p) H'
def sp_closure (T : TX K mg) : Sp := fun vs H Q E => ∃ v d, vs = [v] ∧ Dp K H v d ∧
  (∀ n acts, d = eP n acts → Valid n acts → ∀ rows, IsTab n acts rows → ((closR n rows).length ≤ 120 → ∀ H' v', Same H H' → Dp K H' v' (eP n (closR n rows)) → Q v' H') ∧
    (120 < (closR n rows).length → Throws E H T.c_TooMany "count" (.int (closR n rows).length))) ∧ (¬ IsPlan d → Throws E H T.c_InvalidPlan "given" v)
def sp_reduced (T : TX K mg) : Sp := fun vs H Q E => ∃ v d, vs = [v] ∧ Dp K H v d ∧
  (∀ n acts, d = eP n acts → Valid n acts → ∀ rows, IsTab n acts rows → ∀ H' v', Same H H' → Dp K H' v' (eP n (redR n rows)) → Q v' H') ∧ (¬ IsPlan d → Throws E H T.c_InvalidPlan "given" v)
def sp_is_spare (T : TX K mg) : Sp := fun vs H Q E => ∃ v d w x, vs = [v, w] ∧ Dp K H v d ∧ Dp K H w x ∧
  (∀ n acts, d = eP n acts → Valid n acts → (∀ k : Nat, x = .int k → k < acts.length → ∀ r1 r2, IsTab n (acts.eraseIdx k) r1 → IsTab n acts r2 → ∀ H', Same H H' → Q (.bl (decide (r1 = r2))) H') ∧
    (isIndex acts.length x = false → Throws E H T.c_InvalidActivity "given" w)) ∧ (¬ IsPlan d → Throws E H T.c_InvalidPlan "given" v)
end
end A69
end

section
set_option maxRecDepth 100000
set_option maxHeartbeats 4000000
/-! D69: defs as terms. Printed by gen.py. -/
namespace A69
open PySem PySem.Spec PyProof.Rows L2 KX MP
section
variable {P : Program} {w : World} {K : PySem.W.Frag} {mg : Str → Option Value} {base : Heap}
/-! is_integer: level 1; slots 0 value -/
def t_is_integer (T : TX K mg) : TS := (tRet (tAndV (tCB (rIsi K) (tCons (tVar 0) (tCons (tC (.ty "int")) tNil))) (tNotV (tCB (rIsi K) (tCons (tVar 0) (tCons (tC (.ty "bool")) tNil))))))
theorem d_is_integer (T : TX K mg) {cdv : Value} {A : Around} {outer : List Env} {s : Shared} {H : Hp} {E : XK} (hr : Room (0) (A.deeper (envOfC "is_integer" (defScope s_is_integer) s.heap.objs.size T.f_is_integer cdv))) :
    PSs (cxOf CX0 P w K mg base N_is_integer "is_integer" (defScope s_is_integer) T.f_is_integer cdv A outer s H E).nox (defBody s_is_integer) (t_is_integer T) := by
  have hu0 := hr.units0
  have hu64 := hr.units
  have hu65 : (A.deeper (envOfC "is_integer" (defScope s_is_integer) s.heap.objs.size T.f_is_integer cdv)).units + 65 < cLine := by have := hr.un; omega
  exact (pss_one (ps_ret (pe_and (pe_callB call_isi (by rfl) T.z_isinstance (by decide +kernel) (pa_cons (pv 0) (pa_cons (pe_bltn (v := .ty "int") (by rfl) T.z_int (by decide +kernel) rfl) pa_nil))) (pe_one (pe_not (pe_callB call_isi (by rfl) T.z_isinstance (by decide +kernel) (pa_cons (pv 0) (pa_cons (pe_bltn (v := .ty "bool") (by rfl) T.z_bool (by decide +kernel) rfl) pa_nil))))))))
/-! is_count: level 2; slots 0 value -/
def t_is_count (T : TX K mg) : TS := (tRet (tAndV (tCall (sp_is_integer T) [] E0 (tCons (tVar 0) tNil)) (tOp rGeI (tVar 0) (tC (.int 0)))))
theorem d_is_count (T : TX K mg) (G_is_integer : FnOk P w K mg base CX0 1 T.f_is_integer T.fd_is_integer ["value"] (sp_is_integer T)) {cdv : Value} {A : Around} {outer : List Env} {s : Shared} {H : Hp} {E : XK} (hr : Room (1) (A.deeper (envOfC "is_count" (defScope s_is_count) s.heap.objs.size T.f_is_count cdv))) :
    PSs (cxOf CX0 P w K mg base N_is_count "is_count" (defScope s_is_count) T.f_is_count cdv A outer s H E).nox (defBody s_is_count) (t_is_count T) := by
  have hu0 := hr.units0
  have hu64 := hr.units
  have hu65 : (A.deeper (envOfC "is_count" (defScope s_is_count) s.heap.objs.size T.f_is_count cdv)).units + 65 < cLine := by have := hr.un; omega
  exact (pss_one (ps_ret (pe_and (pe_call G_is_integer (hr.mono (by decide)) (by rfl) T.g_is_integer T.F_is_integer.kp T.b_is_integer .nil pass0 (pa_cons (pv 0) pa_nil)) (pe_one (pe_cmpR op_ge (pv 0) pe_int (nomark _))))))
/-! is_within: level 2; slots 0 value 1 low 2 high -/
def t_is_within (T : TX K mg) : TS := (tRet (tAndV (tCall (sp_is_integer T) [] E0 (tCons (tVar 0) tNil)) (tChain rLeI rLeI (tVar 1) (tVar 0) (tVar 2))))
theorem d_is_within (T : TX K mg) (G_is_integer : FnOk P w K mg base CX0 1 T.f_is_integer T.fd_is_integer ["value"] (sp_is_integer T)) {cdv : Value} {A : Around} {outer : List Env} {s : Shared} {H : Hp} {E : XK} (hr : Room (1) (A.deeper (envOfC "is_within" (defScope s_is_within) s.heap.objs.size T.f_is_within cdv))) :
    PSs (cxOf CX0 P w K mg base N_is_within "is_within" (defScope s_is_within) T.f_is_within cdv A outer s H E).nox (defBody s_is_within) (t_is_within T) := by
  have hu0 := hr.units0
  have hu64 := hr.units
  have hu65 : (A.deeper (envOfC "is_within" (defScope s_is_within) s.heap.objs.size T.f_is_within cdv)).units + 65 < cLine := by have := hr.un; omega
  exact (pss_one (ps_ret (pe_and (pe_call G_is_integer (hr.mono (by decide)) (by rfl) T.g_is_integer T.F_is_integer.kp T.b_is_integer .nil pass0 (pa_cons (pv 0) pa_nil)) (pe_one (pe_chain op_le op_le (pv 1) (pv 0) (pv 2))))))
/-! is_index: level 2; slots 0 value 1 many -/
def t_is_index (T : TX K mg) : TS := (tRet (tAndV (tCall (sp_is_integer T) [] E0 (tCons (tVar 0) tNil)) (tChain rLeI rLtI (tC (.int 0)) (tVar 0) (tVar 1))))
theorem d_is_index (T : TX K mg) (G_is_integer : FnOk P w K mg base CX0 1 T.f_is_integer T.fd_is_integer ["value"] (sp_is_integer T)) {cdv : Value} {A : Around} {outer : List Env} {s : Shared} {H : Hp} {E : XK} (hr : Room (1) (A.deeper (envOfC "is_index" (defScope s_is_index) s.heap.objs.size T.f_is_index cdv))) :
    PSs (cxOf CX0 P w K mg base N_is_index "is_index" (defScope s_is_index) T.f_is_index cdv A outer s H E).nox (defBody s_is_index) (t_is_index T) := by
  have hu0 := hr.units0
  have hu64 := hr.units
  have hu65 : (A.deeper (envOfC "is_index" (defScope s_is_index) s.heap.objs.size T.f_is_index cdv)).units + 65 < cLine := by have := hr.un; omega
  exact (pss_one (ps_ret (pe_and (pe_call G_is_integer (hr.mono (by decide)) (by rfl) T.g_is_integer T.F_is_integer.kp T.b_is_integer .nil pass0 (pa_cons (pv 0) pa_nil)) (pe_one (pe_chain op_le op_lt pe_int (pv 0) (pv 1))))))
/-! is_tuple: level 1; slots 0 value 1 many -/
def t_is_tuple (T : TX K mg) : TS := (tRet (tAndV (tCB (rIsi K) (tCons (tVar 0) (tCons (tC (.ty "tuple")) tNil))) (tOp rEq (tCB (rLen K) (tCons (tVar 0) tNil)) (tVar 1))))
theorem d_is_tuple (T : TX K mg) {cdv : Value} {A : Around} {outer : List Env} {s : Shared} {H : Hp} {E : XK} (hr : Room (0) (A.deeper (envOfC "is_tuple" (defScope s_is_tuple) s.heap.objs.size T.f_is_tuple cdv))) :
    PSs (cxOf CX0 P w K mg base N_is_tuple "is_tuple" (defScope s_is_tuple) T.f_is_tuple cdv A outer s H E).nox (defBody s_is_tuple) (t_is_tuple T) := by
  have hu0 := hr.units0
  have hu64 := hr.units
  have hu65 : (A.deeper (envOfC "is_tuple" (defScope s_is_tuple) s.heap.objs.size T.f_is_tuple cdv)).units + 65 < cLine := by have := hr.un; omega
  exact (pss_one (ps_ret (pe_and (pe_callB call_isi (by rfl) T.z_isinstance (by decide +kernel) (pa_cons (pv 0) (pa_cons (pe_bltn (v := .ty "tuple") (by rfl) T.z_tuple (by decide +kernel) rfl) pa_nil))) (pe_one (pe_cmpR op_eq (pe_callB call_len (by rfl) T.z_len (by decide +kernel) (pa_cons (pv 0) pa_nil)) (pv 1) (nomark _))))))
/-! in_order: level 1; slots 0 items 1 at -/
def t_in_order (T : TX K mg) : TS := (tRet (tCB (rAll K) (tCons (tLc (iRng2 (tCons (tC (.int 1)) (tCons (tCB (rLenSeq K) (tCons (tVar 0) tNil)) tNil))) (gName 1) tYes (tOp (rLeT K) (tOp (rIxT K) (tVar 0) (tOp rSubI (tVar 1) (tC (.int 1)))) (tOp (rIxT K) (tVar 0) (tVar 1))) [1]) tNil)))
theorem d_in_order (T : TX K mg) {cdv : Value} {A : Around} {outer : List Env} {s : Shared} {H : Hp} {E : XK} (hr : Room (0) (A.deeper (envOfC "in_order" (defScope s_in_order) s.heap.objs.size T.f_in_order cdv))) :
    PSs (cxOf CX0 P w K mg base N_in_order "in_order" (defScope s_in_order) T.f_in_order cdv A outer s H E).nox (defBody s_in_order) (t_in_order T) := by
  have hu0 := hr.units0
  have hu64 := hr.units
  have hu65 : (A.deeper (envOfC "in_order" (defScope s_in_order) s.heap.objs.size T.f_in_order cdv)).units + 65 < cLine := by have := hr.un; omega
  exact (pss_one (ps_ret (pe_callB (cr_all rfl) (by rfl) T.z_all (by decide +kernel) (pa_cons (pe_lc (own := [("at", 1)]) rfl sc_in_order.nd (pi_range2 (by rfl) T.z_range (pa_cons pe_int (pa_cons (pe_callB call_len_seq (by rfl) T.z_len (by decide +kernel) (pa_cons (pv 0) pa_nil)) pa_nil))) (blkOk_by (own := [("at", 1)]) (N := N_in_order) (sc := defScope s_in_order) (by decide +kernel)) (fun _ _ _ _ _ => (pg_name (i := 1) sc_in_order.nd rfl (Or.inl rfl))) (fun _ _ _ _ _ => pts_nil) (fun _ _ _ _ _ => (pe_cmpR (op_leT hu0) (pe_ix ix_tup (pv 0) (pe_op op_sub (pv 1) pe_int) (fun _ _ => rfl)) (pe_ix ix_tup (pv 0) (pv 1) (fun _ _ => rfl)) (nomark _)))) pa_nil))))
/-! plus: level 1; slots 0 one 1 other -/
def t_plus (T : TX K mg) : TS := (tRet (tIf (tOr (tTest (tOp rIsN (tVar 0) (tC .non))) (tTest (tOp rIsN (tVar 1) (tC .non)))) (tC .non) (tOp rAddI (tVar 0) (tVar 1))))
theorem d_plus (T : TX K mg) {cdv : Value} {A : Around} {outer : List Env} {s : Shared} {H : Hp} {E : XK} (hr : Room (0) (A.deeper (envOfC "plus" (defScope s_plus) s.heap.objs.size T.f_plus cdv))) :
    PSs (cxOf CX0 P w K mg base N_plus "plus" (defScope s_plus) T.f_plus cdv A outer s H E).nox (defBody s_plus) (t_plus T) := by
  have hu0 := hr.units0
  have hu64 := hr.units
  have hu65 : (A.deeper (envOfC "plus" (defScope s_plus) s.heap.objs.size T.f_plus cdv)).units + 65 < cLine := by have := hr.un; omega
  exact (pss_one (ps_ret (pe_ifExp (PW.pt (pw_or (pt_cmpR op_isN (pv 0) pe_non (nomark _)) (pw_or1 (pt_cmpR op_isN (pv 1) pe_non (nomark _))))) pe_non (pe_op op_add (pv 0) (pv 1)))))
/-! is_later: level 1; slots 0 one 1 other -/
def t_is_later (T : TX K mg) : TS := (tRet (tAndV (tOp rNotN (tVar 0) (tC .non)) (tOrV (tOp rIsN (tVar 1) (tC .non)) (tOp rGtI (tVar 0) (tVar 1)))))
theorem d_is_later (T : TX K mg) {cdv : Value} {A : Around} {outer : List Env} {s : Shared} {H : Hp} {E : XK} (hr : Room (0) (A.deeper (envOfC "is_later" (defScope s_is_later) s.heap.objs.size T.f_is_later cdv))) :
    PSs (cxOf CX0 P w K mg base N_is_later "is_later" (defScope s_is_later) T.f_is_later cdv A outer s H E).nox (defBody s_is_later) (t_is_later T) := by
  have hu0 := hr.units0
  have hu64 := hr.units
  have hu65 : (A.deeper (envOfC "is_later" (defScope s_is_later) s.heap.objs.size T.f_is_later cdv)).units + 65 < cLine := by have := hr.un; omega
  exact (pss_one (ps_ret (pe_and (pe_cmpR op_notN (pv 0) pe_non (nomark _)) (pe_one (pe_or (pe_cmpR op_isN (pv 1) pe_non (nomark _)) (pe_one (pe_cmpR op_gt (pv 0) (pv 1) (nomark _))))))))
/-! is_activity: level 3; slots 0 many 1 value -/
def t_is_activity (T : TX K mg) : TS := (tSeq (tIfS (tOr (tNot (tB (tCall (sp_is_tuple T) [] E0 (tCons (tVar 1) (tCons (tC (.int 3)) tNil))))) (tOr (tNot (tB (tCall (sp_is_index T) [] E0 (tCons (tOp (rIx K) (tVar 1) (tC (.int 0))) (tCons (tVar 0) tNil))))) (tNot (tB (tCall (sp_is_index T) [] E0 (tCons (tOp (rIx K) (tVar 1) (tC (.int 1))) (tCons (tVar 0) tNil))))))) (tRet (tC (.bl false))) tNext)
  (tRet (tAndV (tOp (rNeD K) (tOp (rIx K) (tVar 1) (tC (.int 0))) (tOp (rIx K) (tVar 1) (tC (.int 1)))) (tCall (sp_is_count T) [] E0 (tCons (tOp (rIx K) (tVar 1) (tC (.int 2))) tNil)))))
theorem d_is_activity (T : TX K mg) (G_is_tuple : FnOk P w K mg base CX0 1 T.f_is_tuple T.fd_is_tuple ["value", "many"] (sp_is_tuple T)) (G_is_index : FnOk P w K mg base CX0 2 T.f_is_index T.fd_is_index ["value", "many"] (sp_is_index T)) (G_is_count : FnOk P w K mg base CX0 2 T.f_is_count T.fd_is_count ["value"] (sp_is_count T)) {cdv : Value} {A : Around} {outer : List Env} {s : Shared} {H : Hp} {E : XK} (hr : Room (2) (A.deeper (envOfC "is_activity" (defScope s_is_activity) s.heap.objs.size T.f_is_activity cdv))) :
    PSs (cxOf CX0 P w K mg base N_is_activity "is_activity" (defScope s_is_activity) T.f_is_activity cdv A outer s H E).nox (defBody s_is_activity) (t_is_activity T) := by
  have hu0 := hr.units0
  have hu64 := hr.units
  have hu65 : (A.deeper (envOfC "is_activity" (defScope s_is_activity) s.heap.objs.size T.f_is_activity cdv)).units + 65 < cLine := by have := hr.un; omega
  exact (pss_cons (ps_if (PW.pt (pw_or (pt_not (pt_val (pe_call G_is_tuple (hr.mono (by decide)) (by rfl) T.g_is_tuple T.F_is_tuple.kp T.b_is_tuple .nil pass0 (pa_cons (pv 1) (pa_cons pe_int pa_nil))))) (pw_or (pt_not (pt_val (pe_call G_is_index (hr.mono (by decide)) (by rfl) T.g_is_index T.F_is_index.kp T.b_is_index .nil pass0 (pa_cons (pe_ix ix_seq (pv 1) pe_int (fun _ _ => rfl)) (pa_cons (pv 0) pa_nil))))) (pw_or1 (pt_not (pt_val (pe_call G_is_index (hr.mono (by decide)) (by rfl) T.g_is_index T.F_is_index.kp T.b_is_index .nil pass0 (pa_cons (pe_ix ix_seq (pv 1) pe_int (fun _ _ => rfl)) (pa_cons (pv 0) pa_nil))))))))) (pss_one (ps_ret pe_bl)) pss_nil)
  (pss_one (ps_ret (pe_and (pe_cmpR (op_neD hu64) (pe_ix ix_seq (pv 1) pe_int (fun _ _ => rfl)) (pe_ix ix_seq (pv 1) pe_int (fun _ _ => rfl)) (nomark _)) (pe_one (pe_call G_is_count (hr.mono (by decide)) (by rfl) T.g_is_count T.F_is_count.kp T.b_is_count .nil pass0 (pa_cons (pe_ix ix_seq (pv 1) pe_int (fun _ _ => rfl)) pa_nil)))))))
/-! are_activities: level 4; slots 0 many 1 value 2 item -/
def t_are_activities (T : TX K mg) : TS := (tRet (tAndV (tOp rLeI (tCB (rLenSeq K) (tCons (tVar 1) tNil)) (tC (.int 120))) (tCB (rAll K) (tCons (tLc (iTup K (tVar 1)) (gName 2) tYes (tCall (sp_is_activity T) [] E0 (tCons (tVar 0) (tCons (tVar 2) tNil))) [2]) tNil))))
theorem d_are_activities (T : TX K mg) (G_is_activity : FnOk P w K mg base CX0 3 T.f_is_activity T.fd_is_activity ["many", "value"] (sp_is_activity T)) {cdv : Value} {A : Around} {outer : List Env} {s : Shared} {H : Hp} {E : XK} (hr : Room (3) (A.deeper (envOfC "are_activities" (defScope s_are_activities) s.heap.objs.size T.f_are_activities cdv))) :
    PSs (cxOf CX0 P w K mg base N_are_activities "are_activities" (defScope s_are_activities) T.f_are_activities cdv A outer s H E).nox (defBody s_are_activities) (t_are_activities T) := by
  have hu0 := hr.units0
  have hu64 := hr.units
  have hu65 : (A.deeper (envOfC "are_activities" (defScope s_are_activities) s.heap.objs.size T.f_are_activities cdv)).units + 65 < cLine := by have := hr.un; omega
  exact (pss_one (ps_ret (pe_and (pe_cmpR op_le (pe_callB call_len_seq (by rfl) T.z_len (by decide +kernel) (pa_cons (pv 1) pa_nil)) (pe_glob (by rfl) T.g_MOST_ACTIVITIES ⟨_, rfl⟩) (nomark _)) (pe_one (pe_callB (cr_all rfl) (by rfl) T.z_all (by decide +kernel) (pa_cons (pe_lc (own := [("item", 2)]) rfl sc_are_activities.nd (pi_tup (pv 1)) (blkOk_by (own := [("item", 2)]) (N := N_are_activities) (sc := defScope s_are_activities) (by decide +kernel)) (fun _ _ _ _ _ => (pg_name (i := 2) sc_are_activities.nd rfl (Or.inl rfl))) (fun _ _ _ _ _ => pts_nil) (fun _ _ _ _ _ => (pe_call G_is_activity (hr.mono (by decide)) (by rfl) T.g_is_activity T.F_is_activity.kp T.b_is_activity .nil pass0 (pa_cons (pv 0) (pa_cons (pv 2) pa_nil))))) pa_nil))))))
/-! coming_to: level 1; slots 0 many 1 activities 2 found 3 index 4 activity 5 _ -/
def t_coming_to (T : TX K mg) : TS := (tSeq (tAsg (tLc (iRng1 (tCons (tVar 0) tNil)) (gName 5) tYes (tLst tNil) [5]) (gName 2))
  (tSeq (tFor (iEnumT K (tCons (tVar 1) tNil)) (gTup K 2 (gCons (gName 3) (gCons (gName 4) gNil))) (tDrop (tBM K "list" rAppend (tOp (rIxL K) (tVar 2) (tOp (rIxT K) (tVar 4) (tC (.int 1)))) (tCons (tVar 3) tNil))))
  (tRet (tVar 2))))
theorem d_coming_to (T : TX K mg) {cdv : Value} {A : Around} {outer : List Env} {s : Shared} {H : Hp} {E : XK} (hr : Room (0) (A.deeper (envOfC "coming_to" (defScope s_coming_to) s.heap.objs.size T.f_coming_to cdv))) :
    PSs (cxOf CX0 P w K mg base N_coming_to "coming_to" (defScope s_coming_to) T.f_coming_to cdv A outer s H E).nox (defBody s_coming_to) (t_coming_to T) := by
  have hu0 := hr.units0
  have hu64 := hr.units
  have hu65 : (A.deeper (envOfC "coming_to" (defScope s_coming_to) s.heap.objs.size T.f_coming_to cdv)).units + 65 < cLine := by have := hr.un; omega
  exact (pss_cons (ps_setLc (i := 2) (own := [("_", 5)]) rfl sc_coming_to.nd rfl rfl (sw_true rfl rfl rfl (by decide +kernel)) (pi_range1 (by rfl) T.z_range (pa_cons (pv 0) pa_nil)) (blkOk_by (own := [("_", 5)]) (N := N_coming_to) (sc := defScope s_coming_to) (by decide +kernel)) (fun _ _ _ _ _ => (pg_name (i := 5) sc_coming_to.nd rfl (Or.inl rfl))) (fun _ _ _ _ _ => pts_nil) (fun _ _ _ _ _ => (pe_lst pa_nil)))
  (pss_cons (ps_for PassesOwn.never rfl (pi_enumT (by rfl) T.z_enumerate (pa_cons (pv 1) pa_nil)) (pg_tup rfl (pgs_cons (pg_name (i := 3) sc_coming_to.nd rfl (Or.inl rfl)) (pgs_cons (pg_name (i := 4) sc_coming_to.nd rfl (Or.inl rfl)) pgs_nil))) (pss_one (ps_expr (pe_bm PySem.F.plainAttrs_list PySem.F.slot_list_append PySem.F.type_list_append mt_append (pe_ix ix_list (pv 2) (pe_ix ix_tup (pv 4) pe_int (fun _ _ => rfl)) (fun _ _ => rfl)) (pa_cons (pv 3) pa_nil)))))
  (pss_one (ps_ret (pv 2)))))
/-! sorted_events: level 2; slots 0 many 1 activities 2 ready 3 coming 4 found 5 here 6 event 7 index 8 activity -/
def t_sorted_events (T : TX K mg) : TS := (tSeq (tAsg (tTup (tCons (tCall (sp_coming_to T) [] E0 (tCons (tVar 0) (tCons (tVar 1) tNil))) (tCons (tLst tNil) tNil))) (gTup K 2 (gCons (gName 3) (gCons (gName 4) gNil))))
  (tSeq (tAsg (tLc (iRng1 (tCons (tVar 0) tNil)) (gName 6) (tTest (tOp (rEqD K) (tOp (rIxL K) (tVar 3) (tVar 6)) (tLst tNil))) (tVar 6) [6]) (gName 2))
  (tSeq (tWhile (tTest (tOp (rNeD K) (tVar 2) (tLst tNil))) (tSeq (tAsg (tCB (rMin K) (tCons (tVar 2) tNil)) (gName 5))
  (tSeq (tDrop (tBM K "list" rRemI (tVar 2) (tCons (tVar 5) tNil)))
  (tSeq (tDrop (tBM K "list" rAppend (tVar 4) (tCons (tVar 5) tNil)))
  (tFor (iEnumT K (tCons (tVar 1) tNil)) (gTup K 2 (gCons (gName 7) (gCons (gName 8) gNil))) (tIfS (tTest (tOp rEq (tOp (rIxT K) (tVar 8) (tC (.int 0))) (tVar 5))) (tSeq (tDrop (tBM K "list" rRemI (tOp (rIxL K) (tVar 3) (tOp (rIxT K) (tVar 8) (tC (.int 1)))) (tCons (tVar 7) tNil)))
  (tIfS (tTest (tOp (rEqD K) (tOp (rIxL K) (tVar 3) (tOp (rIxT K) (tVar 8) (tC (.int 1)))) (tLst tNil))) (tDrop (tBM K "list" rAppend (tVar 2) (tCons (tOp (rIxT K) (tVar 8) (tC (.int 1))) tNil))) tNext)) tNext))))))
  (tRet (tVar 4)))))
theorem d_sorted_events (T : TX K mg) (G_coming_to : FnOk P w K mg base CX0 1 T.f_coming_to T.fd_coming_to ["many", "activities"] (sp_coming_to T)) {cdv : Value} {A : Around} {outer : List Env} {s : Shared} {H : Hp} {E : XK} (hr : Room (1) (A.deeper (envOfC "sorted_events" (defScope s_sorted_events) s.heap.objs.size T.f_sorted_events cdv))) :
    PSs (cxOf CX0 P w K mg base N_sorted_events "sorted_events" (defScope s_sorted_events) T.f_sorted_events cdv A outer s H E).nox (defBody s_sorted_events) (t_sorted_events T) := by
  have hu0 := hr.units0
  have hu64 := hr.units
  have hu65 : (A.deeper (envOfC "sorted_events" (defScope s_sorted_events) s.heap.objs.size T.f_sorted_events cdv)).units + 65 < cLine := by have := hr.un; omega
  exact (pss_cons (ps_asg (pe_tup (pa_cons (pe_call G_coming_to (hr.mono (by decide)) (by rfl) T.g_coming_to T.F_coming_to.kp T.b_coming_to .nil pass0 (pa_cons (pv 0) (pa_cons (pv 1) pa_nil))) (pa_cons (pe_lst pa_nil) pa_nil))) (pg_tup rfl (pgs_cons (pg_name (i := 3) sc_sorted_events.nd rfl (Or.inr rfl)) (pgs_cons (pg_name (i := 4) sc_sorted_events.nd rfl (Or.inl rfl)) pgs_nil))))
  (pss_cons (ps_setLc (i := 2) (own := [("event", 6)]) rfl sc_sorted_events.nd rfl rfl (sw_true rfl rfl rfl (by decide +kernel)) (pi_range1 (by rfl) T.z_range (pa_cons (pv 0) pa_nil)) (blkOk_by (own := [("event", 6)]) (N := N_sorted_events) (sc := defScope s_sorted_events) (by decide +kernel)) (fun _ _ _ _ _ => (pg_name (i := 6) sc_sorted_events.nd rfl (Or.inl rfl))) (fun _ _ _ _ _ => (pts_one (pt_cmpR (op_eqD hu64) (pe_ix ix_list (pv 3) (pv 6) (fun _ _ => rfl)) (pe_lst pa_nil) (nomark _)))) (fun _ _ _ _ _ => (pv 6)))
  (pss_cons (ps_while PassesOwn.never (pt_cmpR (op_neD hu64) (pv 2) (pe_lst pa_nil) (nomark _)) (pss_cons (ps_set (i := 5) sc_sorted_events.nd rfl (Or.inl rfl) (pe_callB (cr_min rfl) (by rfl) T.z_min (by decide +kernel) (pa_cons (pv 2) pa_nil)))
  (pss_cons (ps_expr (pe_bm PySem.F.plainAttrs_list PySem.F.slot_list_remove PySem.F.type_list_remove mt_remove (pv 2) (pa_cons (pv 5) pa_nil)))
  (pss_cons (ps_expr (pe_bm PySem.F.plainAttrs_list PySem.F.slot_list_append PySem.F.type_list_append mt_append (pv 4) (pa_cons (pv 5) pa_nil)))
  (pss_one (ps_for PassesOwn.never rfl (pi_enumT (by rfl) T.z_enumerate (pa_cons (pv 1) pa_nil)) (pg_tup rfl (pgs_cons (pg_name (i := 7) sc_sorted_events.nd rfl (Or.inl rfl)) (pgs_cons (pg_name (i := 8) sc_sorted_events.nd rfl (Or.inl rfl)) pgs_nil))) (pss_one (ps_if (pt_cmpR op_eq (pe_ix ix_tup (pv 8) pe_int (fun _ _ => rfl)) (pv 5) (nomark _)) (pss_cons (ps_expr (pe_bm PySem.F.plainAttrs_list PySem.F.slot_list_remove PySem.F.type_list_remove mt_remove (pe_ix ix_list (pv 3) (pe_ix ix_tup (pv 8) pe_int (fun _ _ => rfl)) (fun _ _ => rfl)) (pa_cons (pv 7) pa_nil)))
  (pss_one (ps_if (pt_cmpR (op_eqD hu64) (pe_ix ix_list (pv 3) (pe_ix ix_tup (pv 8) pe_int (fun _ _ => rfl)) (fun _ _ => rfl)) (pe_lst pa_nil) (nomark _)) (pss_one (ps_expr (pe_bm PySem.F.plainAttrs_list PySem.F.slot_list_append PySem.F.type_list_append mt_append (pv 2) (pa_cons (pe_ix ix_tup (pv 8) pe_int (fun _ _ => rfl)) pa_nil)))) pss_nil))) pss_nil))))))))
  (pss_one (ps_ret (pv 4))))))
/-! has_ring: level 3; slots 0 many 1 pairs -/
def t_has_ring (T : TX K mg) : TS := (tRet (tOp rLtI (tCB (rLenSeq K) (tCons (tCall (sp_sorted_events T) [] E0 (tCons (tVar 0) (tCons (tVar 1) tNil))) tNil)) (tVar 0)))
theorem d_has_ring (T : TX K mg) (G_sorted_events : FnOk P w K mg base CX0 2 T.f_sorted_events T.fd_sorted_events ["many", "activities"] (sp_sorted_events T)) {cdv : Value} {A : Around} {outer : List Env} {s : Shared} {H : Hp} {E : XK} (hr : Room (2) (A.deeper (envOfC "has_ring" (defScope s_has_ring) s.heap.objs.size T.f_has_ring cdv))) :
    PSs (cxOf CX0 P w K mg base N_has_ring "has_ring" (defScope s_has_ring) T.f_has_ring cdv A outer s H E).nox (defBody s_has_ring) (t_has_ring T) := by
  have hu0 := hr.units0
  have hu64 := hr.units
  have hu65 : (A.deeper (envOfC "has_ring" (defScope s_has_ring) s.heap.objs.size T.f_has_ring cdv)).units + 65 < cLine := by have := hr.un; omega
  exact (pss_one (ps_ret (pe_cmpR op_lt (pe_callB call_len_seq (by rfl) T.z_len (by decide +kernel) (pa_cons (pe_call G_sorted_events (hr.mono (by decide)) (by rfl) T.g_sorted_events T.F_sorted_events.kp T.b_sorted_events .nil pass0 (pa_cons (pv 0) (pa_cons (pv 1) pa_nil))) pa_nil)) (pv 0) (nomark _))))
/-! is_plan: level 5; slots 0 value 1 many 2 activities -/
def t_is_plan (T : TX K mg) : TS := (tSeq (tIfS (tOr (tNot (tB (tCall (sp_is_tuple T) [] E0 (tCons (tVar 0) (tCons (tC (.int 2)) tNil))))) (tNot (tB (tCall (sp_is_within T) [] E0 (tCons (tOp (rIx K) (tVar 0) (tC (.int 0))) (tCons (tC (.int 1)) (tCons (tC (.int 20)) tNil))))))) (tRet (tC (.bl false))) tNext)
  (tSeq (tAsg (tVar 0) (gTup K 2 (gCons (gName 1) (gCons (gName 2) gNil))))
  (tSeq (tIfS (tOr (tNot (tB (tCB (rIsi K) (tCons (tVar 2) (tCons (tC (.ty "tuple")) tNil))))) (tOr (tNot (tB (tCall (sp_are_activities T) [] E0 (tCons (tVar 1) (tCons (tVar 2) tNil))))) (tNot (tB (tCall (sp_in_order T) [] E0 (tCons (tVar 2) tNil)))))) (tRet (tC (.bl false))) tNext)
  (tRet (tNotV (tCall (sp_has_ring T) [] E0 (tCons (tVar 1) (tCons (tVar 2) tNil))))))))
theorem d_is_plan (T : TX K mg) (G_is_tuple : FnOk P w K mg base CX0 1 T.f_is_tuple T.fd_is_tuple ["value", "many"] (sp_is_tuple T)) (G_is_within : FnOk P w K mg base CX0 2 T.f_is_within T.fd_is_within ["value", "low", "high"] (sp_is_within T)) (G_are_activities : FnOk P w K mg base CX0 4 T.f_are_activities T.fd_are_activities ["many", "value"] (sp_are_activities T)) (G_in_order : FnOk P w K mg base CX0 1 T.f_in_order T.fd_in_order ["items"] (sp_in_order T)) (G_has_ring : FnOk P w K mg base CX0 3 T.f_has_ring T.fd_has_ring ["many", "pairs"] (sp_has_ring T)) {cdv : Value} {A : Around} {outer : List Env} {s : Shared} {H : Hp} {E : XK} (hr : Room (4) (A.deeper (envOfC "is_plan" (defScope s_is_plan) s.heap.objs.size T.f_is_plan cdv))) :
    PSs (cxOf CX0 P w K mg base N_is_plan "is_plan" (defScope s_is_plan) T.f_is_plan cdv A outer s H E).nox (defBody s_is_plan) (t_is_plan T) := by
  have hu0 := hr.units0
  have hu64 := hr.units
  have hu65 : (A.deeper (envOfC "is_plan" (defScope s_is_plan) s.heap.objs.size T.f_is_plan cdv)).units + 65 < cLine := by have := hr.un; omega
  exact (pss_cons (ps_if (PW.pt (pw_or (pt_not (pt_val (pe_call G_is_tuple (hr.mono (by decide)) (by rfl) T.g_is_tuple T.F_is_tuple.kp T.b_is_tuple .nil pass0 (pa_cons (pv 0) (pa_cons pe_int pa_nil))))) (pw_or1 (pt_not (pt_val (pe_call G_is_within (hr.mono (by decide)) (by rfl) T.g_is_within T.F_is_within.kp T.b_is_within .nil pass0 (pa_cons (pe_ix ix_seq (pv 0) pe_int (fun _ _ => rfl)) (pa_cons pe_int (pa_cons (pe_glob (by rfl) T.g_MOST_EVENTS ⟨_, rfl⟩) pa_nil))))))))) (pss_one (ps_ret pe_bl)) pss_nil)
  (pss_cons (ps_asg (pv 0) (pg_tup rfl (pgs_cons (pg_name (i := 1) sc_is_plan.nd rfl (Or.inl rfl)) (pgs_cons (pg_name (i := 2) sc_is_plan.nd rfl (Or.inl rfl)) pgs_nil))))
  (pss_cons (ps_if (PW.pt (pw_or (pt_not (pt_val (pe_callB call_isi (by rfl) T.z_isinstance (by decide +kernel) (pa_cons (pv 2) (pa_cons (pe_bltn (v := .ty "tuple") (by rfl) T.z_tuple (by decide +kernel) rfl) pa_nil))))) (pw_or (pt_not (pt_val (pe_call G_are_activities (hr.mono (by decide)) (by rfl) T.g_are_activities T.F_are_activities.kp T.b_are_activities .nil pass0 (pa_cons (pv 1) (pa_cons (pv 2) pa_nil))))) (pw_or1 (pt_not (pt_val (pe_call G_in_order (hr.mono (by decide)) (by rfl) T.g_in_order T.F_in_order.kp T.b_in_order .nil pass0 (pa_cons (pv 2) pa_nil)))))))) (pss_one (ps_ret pe_bl)) pss_nil)
  (pss_one (ps_ret (pe_not (pe_call G_has_ring (hr.mono (by decide)) (by rfl) T.g_has_ring T.F_has_ring.kp T.b_has_ring .nil pass0 (pa_cons (pv 1) (pa_cons (pv 2) pa_nil)))))))))
/-! check_plan: level 6; slots 0 plan -/
def t_check_plan (T : TX K mg) (E : XK) : TS := (tIfS (tNot (tB (tCall (sp_is_plan T) [] E0 (tCons (tVar 0) tNil)))) (fun _ σ H => tMkO T.c_InvalidPlan (sp_init_InvalidPlan T) [] (tCons (tVar 0) tNil) σ H (fun cls d H1 => E cls d H1)) tNext)
theorem d_check_plan (T : TX K mg) (G_is_plan : FnOk P w K mg base CX0 5 T.f_is_plan T.fd_is_plan ["value"] (sp_is_plan T)) (G_init_InvalidPlan : FnOk P w K mg base CX0 1 T.fi_InvalidPlan T.fdi_InvalidPlan ["self", "given"] (sp_init_InvalidPlan T)) {cdv : Value} {A : Around} {outer : List Env} {s : Shared} {H : Hp} {E : XK} (hr : Room (5) (A.deeper (envOfC "check_plan" (defScope s_check_plan) s.heap.objs.size T.f_check_plan cdv))) :
    PSs (cxOf (L2.CX P w) P w K mg base N_check_plan "check_plan" (defScope s_check_plan) T.f_check_plan cdv A outer s H E) (defBody s_check_plan) (t_check_plan T E) := by
  have hu0 := hr.units0
  have hu64 := hr.units
  have hu65 : (A.deeper (envOfC "check_plan" (defScope s_check_plan) s.heap.objs.size T.f_check_plan cdv)).units + 65 < cLine := by have := hr.un; omega
  have tk : Takes (cxOf (L2.CX P w) P w K mg base N_check_plan "check_plan" (defScope s_check_plan) T.f_check_plan cdv A outer s H E) (fun cls d _ H => E cls d H) := takes_of rfl rfl rfl rfl
  exact (pss_one (ps_if (pt_not (pt_val (pe_call G_is_plan (hr.mono (by decide)) (by rfl) T.g_is_plan T.F_is_plan.kp T.b_is_plan .nil pass0 (pa_cons (pv 0) pa_nil)))) (pss_one (ps_raise rfl tk (pmk_oex T.o_InvalidPlan T.i_InvalidPlan T.ti_InvalidPlan G_init_InvalidPlan (hr.mono (by decide)) T.bi_InvalidPlan .nil pass0 (by rfl) T.gc_InvalidPlan (pa_cons (pv 0) pa_nil)))) pss_nil))
/-! plan_of: level 1; slots 0 many 1 activities -/
def t_plan_of (T : TX K mg) : TS := (tRet (tTup (tCons (tVar 0) (tCons (tCB (rTupleOf K) (tCons (tCB (rSortedD K) (tCons (tVar 1) tNil)) tNil)) tNil))))
theorem d_plan_of (T : TX K mg) {cdv : Value} {A : Around} {outer : List Env} {s : Shared} {H : Hp} {E : XK} (hr : Room (0) (A.deeper (envOfC "plan_of" (defScope s_plan_of) s.heap.objs.size T.f_plan_of cdv))) :
    PSs (cxOf CX0 P w K mg base N_plan_of "plan_of" (defScope s_plan_of) T.f_plan_of cdv A outer s H E).nox (defBody s_plan_of) (t_plan_of T) := by
  have hu0 := hr.units0
  have hu64 := hr.units
  have hu65 : (A.deeper (envOfC "plan_of" (defScope s_plan_of) s.heap.objs.size T.f_plan_of cdv)).units + 65 < cLine := by have := hr.un; omega
  exact (pss_one (ps_ret (pe_tup (pa_cons (pv 0) (pa_cons (pe_callTy call_tuple_of (by rfl) T.z_tuple (by decide +kernel) (pa_cons (pe_callB (cr_sortedD hu64) (by rfl) T.z_sorted (by decide +kernel) (pa_cons (pv 1) pa_nil)) pa_nil)) pa_nil)))))
/-! search: level 3; slots 0 many 1 activities 2 one 3 event 4 found 5 came 6 coming 7 index 8 time -/
def t_search (T : TX K mg) : TS := (tSeq (tPar3 4 5 6 (tCons (tOp rRep (tLst (tCons (tC .non) tNil)) (tVar 0)) (tCons (tOp rRep (tLst (tCons (tC .non) tNil)) (tVar 0)) (tCons (tCall (sp_coming_to T) [] E0 (tCons (tVar 0) (tCons (tVar 1) tNil))) tNil))))
  (tSeq (tAsg (tC (.int 0)) (gSub (tVar 4) (tVar 2) rSetL))
  (tSeq (tFor (iList K (tCall (sp_sorted_events T) [] E0 (tCons (tVar 0) (tCons (tVar 1) tNil)))) (gName 3) (tFor (iList K (tOp (rIxL K) (tVar 6) (tVar 3))) (gName 7) (tSeq (tAsg (tCall (sp_plus T) [] E0 (tCons (tOp (rIxL K) (tVar 4) (tOp (rIxT K) (tOp (rIxT K) (tVar 1) (tVar 7)) (tC (.int 0)))) (tCons (tOp (rIxT K) (tOp (rIxT K) (tVar 1) (tVar 7)) (tC (.int 2))) tNil))) (gName 8))
  (tIfS (tB (tCall (sp_is_later T) [] E0 (tCons (tVar 8) (tCons (tOp (rIxL K) (tVar 4) (tVar 3)) tNil)))) (tAsg (tTup (tCons (tVar 8) (tCons (tVar 7) tNil))) (gTup K 2 (gCons (gSub (tVar 4) (tVar 3) rSetL) (gCons (gSub (tVar 5) (tVar 3) rSetL) gNil)))) tNext))))
  (tRet (tTup (tCons (tVar 4) (tCons (tVar 5) tNil)))))))
theorem d_search (T : TX K mg) (G_coming_to : FnOk P w K mg base CX0 1 T.f_coming_to T.fd_coming_to ["many", "activities"] (sp_coming_to T)) (G_sorted_events : FnOk P w K mg base CX0 2 T.f_sorted_events T.fd_sorted_events ["many", "activities"] (sp_sorted_events T)) (G_plus : FnOk P w K mg base CX0 1 T.f_plus T.fd_plus ["one", "other"] (sp_plus T)) (G_is_later : FnOk P w K mg base CX0 1 T.f_is_later T.fd_is_later ["one", "other"] (sp_is_later T)) {cdv : Value} {A : Around} {outer : List Env} {s : Shared} {H : Hp} {E : XK} (hr : Room (2) (A.deeper (envOfC "search" (defScope s_search) s.heap.objs.size T.f_search cdv))) :
    PSs (cxOf CX0 P w K mg base N_search "search" (defScope s_search) T.f_search cdv A outer s H E).nox (defBody s_search) (t_search T) := by
  have hu0 := hr.units0
  have hu64 := hr.units
  have hu65 : (A.deeper (envOfC "search" (defScope s_search) s.heap.objs.size T.f_search cdv)).units + 65 < cLine := by have := hr.un; omega
  exact (pss_cons (ps_par3 (i := 4) (j := 5) (l := 6) rfl sc_search.nd rfl rfl rfl (by decide) (by decide) (by decide) rfl rfl rfl (pa_cons (pe_op op_rep (pe_lst (pa_cons pe_non pa_nil)) (pv 0)) (pa_cons (pe_op op_rep (pe_lst (pa_cons pe_non pa_nil)) (pv 0)) (pa_cons (pe_call G_coming_to (hr.mono (by decide)) (by rfl) T.g_coming_to T.F_coming_to.kp T.b_coming_to .nil pass0 (pa_cons (pv 0) (pa_cons (pv 1) pa_nil))) pa_nil))) (by rfl))
  (pss_cons (ps_asg pe_int (pg_sub (pv 4) (pv 2) set_list))
  (pss_cons (ps_for PassesOwn.never rfl (pi_list (pe_call G_sorted_events (hr.mono (by decide)) (by rfl) T.g_sorted_events T.F_sorted_events.kp T.b_sorted_events .nil pass0 (pa_cons (pv 0) (pa_cons (pv 1) pa_nil)))) (pg_name (i := 3) sc_search.nd rfl (Or.inl rfl)) (pss_one (ps_for PassesOwn.never rfl (pi_list (pe_ix ix_list (pv 6) (pv 3) (fun _ _ => rfl))) (pg_name (i := 7) sc_search.nd rfl (Or.inl rfl)) (pss_cons (ps_set (i := 8) sc_search.nd rfl (Or.inl rfl) (pe_call G_plus (hr.mono (by decide)) (by rfl) T.g_plus T.F_plus.kp T.b_plus .nil pass0 (pa_cons (pe_ix ix_list (pv 4) (pe_ix ix_tup (pe_ix ix_tup (pv 1) (pv 7) (fun _ _ => rfl)) pe_int (fun _ _ => rfl)) (fun _ _ => rfl)) (pa_cons (pe_ix ix_tup (pe_ix ix_tup (pv 1) (pv 7) (fun _ _ => rfl)) pe_int (fun _ _ => rfl)) pa_nil))))
  (pss_one (ps_if (pt_val (pe_call G_is_later (hr.mono (by decide)) (by rfl) T.g_is_later T.F_is_later.kp T.b_is_later .nil pass0 (pa_cons (pv 8) (pa_cons (pe_ix ix_list (pv 4) (pv 3) (fun _ _ => rfl)) pa_nil)))) (pss_one (ps_asg (pe_tup (pa_cons (pv 8) (pa_cons (pv 7) pa_nil))) (pg_tup rfl (pgs_cons (pg_sub (pv 4) (pv 3) set_list) (pgs_cons (pg_sub (pv 5) (pv 3) set_list) pgs_nil))))) pss_nil))))))
  (pss_one (ps_ret (pe_tup (pa_cons (pv 4) (pa_cons (pv 5) pa_nil))))))))
/-! times_from: level 4; slots 0 many 1 activities 2 one -/
def t_times_from (T : TX K mg) : TS := (tRet (tOp (rIxT K) (tCall (sp_search T) [] E0 (tCons (tVar 0) (tCons (tVar 1) (tCons (tVar 2) tNil)))) (tC (.int 0))))
theorem d_times_from (T : TX K mg) (G_search : FnOk P w K mg base CX0 3 T.f_search T.fd_search ["many", "activities", "one"] (sp_search T)) {cdv : Value} {A : Around} {outer : List Env} {s : Shared} {H : Hp} {E : XK} (hr : Room (3) (A.deeper (envOfC "times_from" (defScope s_times_from) s.heap.objs.size T.f_times_from cdv))) :
    PSs (cxOf CX0 P w K mg base N_times_from "times_from" (defScope s_times_from) T.f_times_from cdv A outer s H E).nox (defBody s_times_from) (t_times_from T) := by
  have hu0 := hr.units0
  have hu64 := hr.units
  have hu65 : (A.deeper (envOfC "times_from" (defScope s_times_from) s.heap.objs.size T.f_times_from cdv)).units + 65 < cLine := by have := hr.un; omega
  exact (pss_one (ps_ret (pe_ix ix_tup (pe_call G_search (hr.mono (by decide)) (by rfl) T.g_search T.F_search.kp T.b_search .nil pass0 (pa_cons (pv 0) (pa_cons (pv 1) (pa_cons (pv 2) pa_nil)))) pe_int (fun _ _ => rfl))))
/-! times_of: level 5; slots 0 plan 1 one -/
def t_times_of (T : TX K mg) : TS := (tRet (tCB (rTupleOf K) (tCons (tLc (iRng1 (tCons (tOp (rIxT K) (tVar 0) (tC (.int 0))) tNil)) (gName 1) tYes (tCB (rTupleOf K) (tCons (tCall (sp_times_from T) [] E0 (tCons (tOp (rIxT K) (tVar 0) (tC (.int 0))) (tCons (tOp (rIxT K) (tVar 0) (tC (.int 1))) (tCons (tVar 1) tNil)))) tNil)) [1]) tNil)))
theorem d_times_of (T : TX K mg) (G_times_from : FnOk P w K mg base CX0 4 T.f_times_from T.fd_times_from ["many", "activities", "one"] (sp_times_from T)) {cdv : Value} {A : Around} {outer : List Env} {s : Shared} {H : Hp} {E : XK} (hr : Room (4) (A.deeper (envOfC "times_of" (defScope s_times_of) s.heap.objs.size T.f_times_of cdv))) :
    PSs (cxOf CX0 P w K mg base N_times_of "times_of" (defScope s_times_of) T.f_times_of cdv A outer s H E).nox (defBody s_times_of) (t_times_of T) := by
  have hu0 := hr.units0
  have hu64 := hr.units
  have hu65 : (A.deeper (envOfC "times_of" (defScope s_times_of) s.heap.objs.size T.f_times_of cdv)).units + 65 < cLine := by have := hr.un; omega
  exact (pss_one (ps_ret (pe_callTy call_tuple_of (by rfl) T.z_tuple (by decide +kernel) (pa_cons (pe_lc (own := [("one", 1)]) rfl sc_times_of.nd (pi_range1 (by rfl) T.z_range (pa_cons (pe_ix ix_tup (pv 0) pe_int (fun _ _ => rfl)) pa_nil)) (blkOk_by (own := [("one", 1)]) (N := N_times_of) (sc := defScope s_times_of) (by decide +kernel)) (fun _ _ _ _ _ => (pg_name (i := 1) sc_times_of.nd rfl (Or.inl rfl))) (fun _ _ _ _ _ => pts_nil) (fun _ _ _ _ _ => (pe_callTy call_tuple_of (by rfl) T.z_tuple (by decide +kernel) (pa_cons (pe_call G_times_from (hr.mono (by decide)) (by rfl) T.g_times_from T.F_times_from.kp T.b_times_from .nil pass0 (pa_cons (pe_ix ix_tup (pv 0) pe_int (fun _ _ => rfl)) (pa_cons (pe_ix ix_tup (pv 0) pe_int (fun _ _ => rfl)) (pa_cons (pv 1) pa_nil)))) pa_nil)))) pa_nil))))
/-! pairs_of: level 1; slots 0 found 1 many 2 a 3 b -/
def t_pairs_of (T : TX K mg) : TS := (tSeq (tAsg (tCB rRange1 (tCons (tCB (rLenSeq K) (tCons (tVar 0) tNil)) tNil)) (gName 1))
  (tRet (tLc2 (iRgV (tVar 1)) (gName 2) tYes (iRgV (tVar 1)) (gName 3) (tAnd (tTest (tOp rNe (tVar 2) (tVar 3))) (tTest (tOp rNotN (tOp (rIxT K) (tOp (rIxT K) (tVar 0) (tVar 2)) (tVar 3)) (tC .non)))) (tTup (tCons (tVar 2) (tCons (tVar 3) tNil))) [2, 3] [3])))
theorem d_pairs_of (T : TX K mg) {cdv : Value} {A : Around} {outer : List Env} {s : Shared} {H : Hp} {E : XK} (hr : Room (0) (A.deeper (envOfC "pairs_of" (defScope s_pairs_of) s.heap.objs.size T.f_pairs_of cdv))) :
    PSs (cxOf CX0 P w K mg base N_pairs_of "pairs_of" (defScope s_pairs_of) T.f_pairs_of cdv A outer s H E).nox (defBody s_pairs_of) (t_pairs_of T) := by
  have hu0 := hr.units0
  have hu64 := hr.units
  have hu65 : (A.deeper (envOfC "pairs_of" (defScope s_pairs_of) s.heap.objs.size T.f_pairs_of cdv)).units + 65 < cLine := by have := hr.un; omega
  exact (pss_cons (ps_set (i := 1) sc_pairs_of.nd rfl (Or.inr rfl) (pe_callTy cr_range1 (by rfl) T.z_range (by decide +kernel) (pa_cons (pe_callB call_len_seq (by rfl) T.z_len (by decide +kernel) (pa_cons (pv 0) pa_nil)) pa_nil)))
  (pss_one (ps_ret (pe_lc2 (own := [("a", 2), ("b", 3)]) (vs1 := [3]) rfl sc_pairs_of.nd (pi_rgV (pv 1)) (blkOk_by (own := [("a", 2), ("b", 3)]) (N := N_pairs_of) (sc := defScope s_pairs_of) (by decide +kernel)) (by decide) (fun _ _ _ _ _ => (pg_name (i := 2) sc_pairs_of.nd rfl (Or.inl rfl))) (fun _ _ _ _ _ => pts_nil) (fun _ _ _ _ _ => (pi_rgV (pv 1))) (fun _ _ _ _ _ => (pg_name (i := 3) sc_pairs_of.nd rfl (Or.inl rfl))) (fun _ _ _ _ _ => (pts_one (PW.pt (pw_and (pt_cmpR op_ne (pv 2) (pv 3) (nomark _)) (pw_and1 (pt_cmpR op_notN (pe_ix ix_tup (pe_ix ix_tup (pv 0) (pv 2) (fun _ _ => rfl)) (pv 3) (fun _ _ => rfl)) pe_non (nomark _))))))) (fun _ _ _ _ _ => (pe_tup (pa_cons (pv 2) (pa_cons (pv 3) pa_nil))))))))
/-! sums_between: level 2; slots 0 found 1 a 2 b 3 sums 4 c 5 item -/
def t_sums_between (T : TX K mg) : TS := (tSeq (tAsg (tLc (iRng1 (tCons (tCB (rLenSeq K) (tCons (tVar 0) tNil)) tNil)) (gName 4) (tTest (tOp (rIn K true) (tVar 4) (tTup (tCons (tVar 1) (tCons (tVar 2) tNil))))) (tCall (sp_plus T) [] E0 (tCons (tOp (rIxT K) (tOp (rIxT K) (tVar 0) (tVar 1)) (tVar 4)) (tCons (tOp (rIxT K) (tOp (rIxT K) (tVar 0) (tVar 4)) (tVar 2)) tNil))) [4]) (gName 3))
  (tRet (tLc (iList K (tVar 3)) (gName 5) (tTest (tOp rNotN (tVar 5) (tC .non))) (tVar 5) [5])))
theorem d_sums_between (T : TX K mg) (G_plus : FnOk P w K mg base CX0 1 T.f_plus T.fd_plus ["one", "other"] (sp_plus T)) {cdv : Value} {A : Around} {outer : List Env} {s : Shared} {H : Hp} {E : XK} (hr : Room (1) (A.deeper (envOfC "sums_between" (defScope s_sums_between) s.heap.objs.size T.f_sums_between cdv))) :
    PSs (cxOf CX0 P w K mg base N_sums_between "sums_between" (defScope s_sums_between) T.f_sums_between cdv A outer s H E).nox (defBody s_sums_between) (t_sums_between T) := by
  have hu0 := hr.units0
  have hu64 := hr.units
  have hu65 : (A.deeper (envOfC "sums_between" (defScope s_sums_between) s.heap.objs.size T.f_sums_between cdv)).units + 65 < cLine := by have := hr.un; omega
  exact (pss_cons (ps_setLc (i := 3) (own := [("c", 4)]) rfl sc_sums_between.nd rfl rfl (sw_true rfl rfl rfl (by decide +kernel)) (pi_range1 (by rfl) T.z_range (pa_cons (pe_callB call_len_seq (by rfl) T.z_len (by decide +kernel) (pa_cons (pv 0) pa_nil)) pa_nil)) (blkOk_by (own := [("c", 4)]) (N := N_sums_between) (sc := defScope s_sums_between) (by decide +kernel)) (fun _ _ _ _ _ => (pg_name (i := 4) sc_sums_between.nd rfl (Or.inl rfl))) (fun _ _ _ _ _ => (pts_one (pt_cmpR op_notIn_seq (pv 4) (pe_tup (pa_cons (pv 1) (pa_cons (pv 2) pa_nil))) (by rfl)))) (fun _ _ _ _ _ => (pe_call G_plus (hr.mono (by decide)) (by rfl) T.g_plus T.F_plus.kp T.b_plus .nil pass0 (pa_cons (pe_ix ix_tup (pe_ix ix_tup (pv 0) (pv 1) (fun _ _ => rfl)) (pv 4) (fun _ _ => rfl)) (pa_cons (pe_ix ix_tup (pe_ix ix_tup (pv 0) (pv 4) (fun _ _ => rfl)) (pv 2) (fun _ _ => rfl)) pa_nil)))))
  (pss_one (ps_ret (pe_lc (own := [("item", 5)]) rfl sc_sums_between.nd (pi_list (pv 3)) (blkOk_by (own := [("item", 5)]) (N := N_sums_between) (sc := defScope s_sums_between) (by decide +kernel)) (fun _ _ _ _ _ => (pg_name (i := 5) sc_sums_between.nd rfl (Or.inl rfl))) (fun _ _ _ _ _ => (pts_one (pt_cmpR op_notN (pv 5) pe_non (nomark _)))) (fun _ _ _ _ _ => (pv 5))))))
/-! closure: level 7; slots 0 plan 1 found 2 pairs 3 a 4 b -/
def t_closure (T : TX K mg) (E : XK) : TS := (tSeq (tDrop (tCallS (sp_check_plan T) (WE (fun cls d _ H => E cls d H)) (tCons (tVar 0) tNil)))
  (tSeq (tAsg (tCall (sp_times_of T) [] E0 (tCons (tVar 0) tNil)) (gName 1))
  (tSeq (tAsg (tCall (sp_pairs_of T) [] E0 (tCons (tVar 1) tNil)) (gName 2))
  (tSeq (tIfS (tTest (tOp rGtI (tCB (rLenSeq K) (tCons (tVar 2) tNil)) (tC (.int 120)))) (fun _ σ H => tMkO T.c_TooMany (sp_init_TooMany T) [] (tCons (tCB (rLenSeq K) (tCons (tVar 2) tNil)) tNil) σ H (fun cls d H1 => E cls d H1)) tNext)
  (tRet (tCall (sp_plan_of T) [] E0 (tCons (tOp (rIxT K) (tVar 0) (tC (.int 0))) (tCons (tLc (iList K (tVar 2)) (gTup K 2 (gCons (gName 3) (gCons (gName 4) gNil))) tYes (tTup (tCons (tVar 3) (tCons (tVar 4) (tCons (tOp (rIxT K) (tOp (rIxT K) (tVar 1) (tVar 3)) (tVar 4)) tNil)))) [3, 4]) tNil))))))))
theorem d_closure (T : TX K mg) (G_check_plan : FnOk P w K mg base (L2.CX P w) 6 T.f_check_plan T.fd_check_plan ["plan"] (sp_check_plan T)) (G_times_of : FnOk P w K mg base CX0 5 T.f_times_of T.fd_times_of ["plan"] (sp_times_of T)) (G_pairs_of : FnOk P w K mg base CX0 1 T.f_pairs_of T.fd_pairs_of ["found"] (sp_pairs_of T)) (G_plan_of : FnOk P w K mg base CX0 1 T.f_plan_of T.fd_plan_of ["many", "activities"] (sp_plan_of T)) (G_init_TooMany : FnOk P w K mg base CX0 1 T.fi_TooMany T.fdi_TooMany ["self", "count"] (sp_init_TooMany T)) {cdv : Value} {A : Around} {outer : List Env} {s : Shared} {H : Hp} {E : XK} (hr : Room (6) (A.deeper (envOfC "closure" (defScope s_closure) s.heap.objs.size T.f_closure cdv))) :
    PSs (cxOf (L2.CX P w) P w K mg base N_closure "closure" (defScope s_closure) T.f_closure cdv A outer s H E) (defBody s_closure) (t_closure T E) := by
  have hu0 := hr.units0
  have hu64 := hr.units
  have hu65 : (A.deeper (envOfC "closure" (defScope s_closure) s.heap.objs.size T.f_closure cdv)).units + 65 < cLine := by have := hr.un; omega
  have tk : Takes (cxOf (L2.CX P w) P w K mg base N_closure "closure" (defScope s_closure) T.f_closure cdv A outer s H E) (fun cls d _ H => E cls d H) := takes_of rfl rfl rfl rfl
  exact (pss_cons (ps_expr (pe_callS G_check_plan (hr.mono (by decide)) (by rfl) T.g_check_plan T.F_check_plan.kp T.b_check_plan (fun σ => passAt tk σ) (pa_cons (pv 0) pa_nil)))
  (pss_cons (ps_set (i := 1) sc_closure.nd rfl (Or.inr rfl) (pe_call G_times_of (hr.mono (by decide)) (by rfl) T.g_times_of T.F_times_of.kp T.b_times_of .nil pass0 (pa_cons (pv 0) pa_nil)))
  (pss_cons (ps_set (i := 2) sc_closure.nd rfl (Or.inl rfl) (pe_call G_pairs_of (hr.mono (by decide)) (by rfl) T.g_pairs_of T.F_pairs_of.kp T.b_pairs_of .nil pass0 (pa_cons (pv 1) pa_nil)))
  (pss_cons (ps_if (pt_cmpR op_gt (pe_callB call_len_seq (by rfl) T.z_len (by decide +kernel) (pa_cons (pv 2) pa_nil)) (pe_glob (by rfl) T.g_MOST_ACTIVITIES ⟨_, rfl⟩) (nomark _)) (pss_one (ps_raise rfl tk (pmk_oex T.o_TooMany T.i_TooMany T.ti_TooMany G_init_TooMany (hr.mono (by decide)) T.bi_TooMany .nil pass0 (by rfl) T.gc_TooMany (pa_cons (pe_callB call_len_seq (by rfl) T.z_len (by decide +kernel) (pa_cons (pv 2) pa_nil)) pa_nil)))) pss_nil)
  (pss_one (ps_ret (pe_call G_plan_of (hr.mono (by decide)) (by rfl) T.g_plan_of T.F_plan_of.kp T.b_plan_of .nil pass0 (pa_cons (pe_ix ix_tup (pv 0) pe_int (fun _ _ => rfl)) (pa_cons (pe_lc (own := [("a", 3), ("b", 4)]) rfl sc_closure.nd (pi_list (pv 2)) (blkOk_by (own := [("a", 3), ("b", 4)]) (N := N_closure) (sc := defScope s_closure) (by decide +kernel)) (fun _ _ _ _ _ => (pg_tup rfl (pgs_cons (pg_name (i := 3) sc_closure.nd rfl (Or.inl rfl)) (pgs_cons (pg_name (i := 4) sc_closure.nd rfl (Or.inl rfl)) pgs_nil)))) (fun _ _ _ _ _ => pts_nil) (fun _ _ _ _ _ => (pe_tup (pa_cons (pv 3) (pa_cons (pv 4) (pa_cons (pe_ix ix_tup (pe_ix ix_tup (pv 1) (pv 3) (fun _ _ => rfl)) (pv 4) (fun _ _ => rfl)) pa_nil)))))) pa_nil)))))))))
/-! is_spare: level 7; slots 0 plan 1 activity 2 many 3 activities -/
def t_is_spare (T : TX K mg) (E : XK) : TS := (tSeq (tDrop (tCallS (sp_check_plan T) (WE (fun cls d _ H => E cls d H)) (tCons (tVar 0) tNil)))
  (tSeq (tAsg (tVar 0) (gTup K 2 (gCons (gName 2) (gCons (gName 3) gNil))))
  (tSeq (tIfS (tNot (tB (tCall (sp_is_index T) [] E0 (tCons (tVar 1) (tCons (tCB (rLenSeq K) (tCons (tVar 3) tNil)) tNil))))) (fun _ σ H => tMkO T.c_InvalidActivity (sp_init_InvalidActivity T) [] (tCons (tVar 1) tNil) σ H (fun cls d H1 => E cls d H1)) tNext)
  (tRet (tOp (rEqD K) (tCall (sp_times_of T) [] E0 (tCons (tTup (tCons (tVar 2) (tCons (tOp (rCatA K) (tSl (rSlA K) (tVar 3) tNoPart (tPart (tVar 1))) (tSl (rSlA K) (tVar 3) (tPart (tOp rAddI (tVar 1) (tC (.int 1)))) tNoPart)) tNil))) tNil)) (tCall (sp_times_of T) [] E0 (tCons (tVar 0) tNil)))))))
theorem d_is_spare (T : TX K mg) (G_check_plan : FnOk P w K mg base (L2.CX P w) 6 T.f_check_plan T.fd_check_plan ["plan"] (sp_check_plan T)) (G_is_index : FnOk P w K mg base CX0 2 T.f_is_index T.fd_is_index ["value", "many"] (sp_is_index T)) (G_times_of : FnOk P w K mg base CX0 5 T.f_times_of T.fd_times_of ["plan"] (sp_times_of T)) (G_init_InvalidActivity : FnOk P w K mg base CX0 1 T.fi_InvalidActivity T.fdi_InvalidActivity ["self", "given"] (sp_init_InvalidActivity T)) {cdv : Value} {A : Around} {outer : List Env} {s : Shared} {H : Hp} {E : XK} (hr : Room (6) (A.deeper (envOfC "is_spare" (defScope s_is_spare) s.heap.objs.size T.f_is_spare cdv))) :
    PSs (cxOf (L2.CX P w) P w K mg base N_is_spare "is_spare" (defScope s_is_spare) T.f_is_spare cdv A outer s H E) (defBody s_is_spare) (t_is_spare T E) := by
  have hu0 := hr.units0
  have hu64 := hr.units
  have hu65 : (A.deeper (envOfC "is_spare" (defScope s_is_spare) s.heap.objs.size T.f_is_spare cdv)).units + 65 < cLine := by have := hr.un; omega
  have tk : Takes (cxOf (L2.CX P w) P w K mg base N_is_spare "is_spare" (defScope s_is_spare) T.f_is_spare cdv A outer s H E) (fun cls d _ H => E cls d H) := takes_of rfl rfl rfl rfl
  exact (pss_cons (ps_expr (pe_callS G_check_plan (hr.mono (by decide)) (by rfl) T.g_check_plan T.F_check_plan.kp T.b_check_plan (fun σ => passAt tk σ) (pa_cons (pv 0) pa_nil)))
  (pss_cons (ps_asg (pv 0) (pg_tup rfl (pgs_cons (pg_name (i := 2) sc_is_spare.nd rfl (Or.inl rfl)) (pgs_cons (pg_name (i := 3) sc_is_spare.nd rfl (Or.inl rfl)) pgs_nil))))
  (pss_cons (ps_if (pt_not (pt_val (pe_call G_is_index (hr.mono (by decide)) (by rfl) T.g_is_index T.F_is_index.kp T.b_is_index .nil pass0 (pa_cons (pv 1) (pa_cons (pe_callB call_len_seq (by rfl) T.z_len (by decide +kernel) (pa_cons (pv 3) pa_nil)) pa_nil))))) (pss_one (ps_raise rfl tk (pmk_oex T.o_InvalidActivity T.i_InvalidActivity T.ti_InvalidActivity G_init_InvalidActivity (hr.mono (by decide)) T.bi_InvalidActivity .nil pass0 (by rfl) T.gc_InvalidActivity (pa_cons (pv 1) pa_nil)))) pss_nil)
  (pss_one (ps_ret (pe_cmpR (op_eqD hu64) (pe_call G_times_of (hr.mono (by decide)) (by rfl) T.g_times_of T.F_times_of.kp T.b_times_of .nil pass0 (pa_cons (pe_tup (pa_cons (pv 2) (pa_cons (pe_op op_catA (pe_slice sl_tupA (pv 3) po_none (po_some (pv 1))) (pe_slice sl_tupA (pv 3) (po_some (pe_op op_add (pv 1) pe_int)) po_none)) pa_nil))) pa_nil)) (pe_call G_times_of (hr.mono (by decide)) (by rfl) T.g_times_of T.F_times_of.kp T.b_times_of .nil pass0 (pa_cons (pv 0) pa_nil)) (nomark _)))))))
/-! reduced: level 7; slots 0 plan 1 found 2 pairs 3 a 4 b 5 item -/
def t_reduced (T : TX K mg) (E : XK) : TS := (tSeq (tDrop (tCallS (sp_check_plan T) (WE (fun cls d _ H => E cls d H)) (tCons (tVar 0) tNil)))
  (tSeq (tAsg (tCall (sp_times_of T) [] E0 (tCons (tVar 0) tNil)) (gName 1))
  (tSeq (tAsg (tLc (iList K (tCall (sp_pairs_of T) [] E0 (tCons (tVar 1) tNil))) (gTup K 2 (gCons (gName 3) (gCons (gName 4) gNil))) (tB (tCB (rAll K) (tCons (tLc (iList K (tCall (sp_sums_between T) [] E0 (tCons (tVar 1) (tCons (tVar 3) (tCons (tVar 4) tNil))))) (gName 5) tYes (tOp rLtI (tVar 5) (tOp (rIxT K) (tOp (rIxT K) (tVar 1) (tVar 3)) (tVar 4))) [5]) tNil))) (tTup (tCons (tVar 3) (tCons (tVar 4) tNil))) [3, 4]) (gName 2))
  (tRet (tCall (sp_plan_of T) [] E0 (tCons (tOp (rIxT K) (tVar 0) (tC (.int 0))) (tCons (tLc (iList K (tVar 2)) (gTup K 2 (gCons (gName 3) (gCons (gName 4) gNil))) tYes (tTup (tCons (tVar 3) (tCons (tVar 4) (tCons (tOp (rIxT K) (tOp (rIxT K) (tVar 1) (tVar 3)) (tVar 4)) tNil)))) [3, 4]) tNil)))))))
theorem d_reduced (T : TX K mg) (G_check_plan : FnOk P w K mg base (L2.CX P w) 6 T.f_check_plan T.fd_check_plan ["plan"] (sp_check_plan T)) (G_times_of : FnOk P w K mg base CX0 5 T.f_times_of T.fd_times_of ["plan"] (sp_times_of T)) (G_pairs_of : FnOk P w K mg base CX0 1 T.f_pairs_of T.fd_pairs_of ["found"] (sp_pairs_of T)) (G_sums_between : FnOk P w K mg base CX0 2 T.f_sums_between T.fd_sums_between ["found", "a", "b"] (sp_sums_between T)) (G_plan_of : FnOk P w K mg base CX0 1 T.f_plan_of T.fd_plan_of ["many", "activities"] (sp_plan_of T)) {cdv : Value} {A : Around} {outer : List Env} {s : Shared} {H : Hp} {E : XK} (hr : Room (6) (A.deeper (envOfC "reduced" (defScope s_reduced) s.heap.objs.size T.f_reduced cdv))) :
    PSs (cxOf (L2.CX P w) P w K mg base N_reduced "reduced" (defScope s_reduced) T.f_reduced cdv A outer s H E) (defBody s_reduced) (t_reduced T E) := by
  have hu0 := hr.units0
  have hu64 := hr.units
  have hu65 : (A.deeper (envOfC "reduced" (defScope s_reduced) s.heap.objs.size T.f_reduced cdv)).units + 65 < cLine := by have := hr.un; omega
  have tk : Takes (cxOf (L2.CX P w) P w K mg base N_reduced "reduced" (defScope s_reduced) T.f_reduced cdv A outer s H E) (fun cls d _ H => E cls d H) := takes_of rfl rfl rfl rfl
  exact (pss_cons (ps_expr (pe_callS G_check_plan (hr.mono (by decide)) (by rfl) T.g_check_plan T.F_check_plan.kp T.b_check_plan (fun σ => passAt tk σ) (pa_cons (pv 0) pa_nil)))
  (pss_cons (ps_set (i := 1) sc_reduced.nd rfl (Or.inr rfl) (pe_call G_times_of (hr.mono (by decide)) (by rfl) T.g_times_of T.F_times_of.kp T.b_times_of .nil pass0 (pa_cons (pv 0) pa_nil)))
  (pss_cons (ps_setLc (i := 2) (own := [("a", 3), ("b", 4)]) rfl sc_reduced.nd rfl rfl (sw_true rfl rfl rfl (by decide +kernel)) (pi_list (pe_call G_pairs_of (hr.mono (by decide)) (by rfl) T.g_pairs_of T.F_pairs_of.kp T.b_pairs_of .nil pass0 (pa_cons (pv 1) pa_nil))) (blkOk_by (own := [("a", 3), ("b", 4)]) (N := N_reduced) (sc := defScope s_reduced) (by decide +kernel)) (fun _ _ _ _ _ => (pg_tup rfl (pgs_cons (pg_name (i := 3) sc_reduced.nd rfl (Or.inr rfl)) (pgs_cons (pg_name (i := 4) sc_reduced.nd rfl (Or.inr rfl)) pgs_nil)))) (fun _ _ _ _ _ => (pts_one (pt_val (pe_callB (cr_all rfl) (by rfl) T.z_all (by decide +kernel) (pa_cons (pe_lc (own := [("item", 5)]) rfl sc_reduced.nd (pi_list (pe_call G_sums_between (hr.mono (by decide)) (by rfl) T.g_sums_between T.F_sums_between.kp T.b_sums_between .nil pass0 (pa_cons (pv 1) (pa_cons (pv 3) (pa_cons (pv 4) pa_nil))))) (blkOk_by (own := [("item", 5)]) (by rfl)) (fun _ _ _ _ _ => (pg_name (i := 5) sc_reduced.nd rfl (Or.inl rfl))) (fun _ _ _ _ _ => pts_nil) (fun _ _ _ _ _ => (pe_cmpR op_lt (pv 5) (pe_ix ix_tup (pe_ix ix_tup (pv 1) (pv 3) (fun _ _ => rfl)) (pv 4) (fun _ _ => rfl)) (nomark _)))) pa_nil))))) (fun _ _ _ _ _ => (pe_tup (pa_cons (pv 3) (pa_cons (pv 4) pa_nil)))))
  (pss_one (ps_ret (pe_call G_plan_of (hr.mono (by decide)) (by rfl) T.g_plan_of T.F_plan_of.kp T.b_plan_of .nil pass0 (pa_cons (pe_ix ix_tup (pv 0) pe_int (fun _ _ => rfl)) (pa_cons (pe_lc (own := [("a", 3), ("b", 4)]) rfl sc_reduced.nd (pi_list (pv 2)) (blkOk_by (own := [("a", 3), ("b", 4)]) (N := N_reduced) (sc := defScope s_reduced) (by decide +kernel)) (fun _ _ _ _ _ => (pg_tup rfl (pgs_cons (pg_name (i := 3) sc_reduced.nd rfl (Or.inl rfl)) (pgs_cons (pg_name (i := 4) sc_reduced.nd rfl (Or.inl rfl)) pgs_nil)))) (fun _ _ _ _ _ => pts_nil) (fun _ _ _ _ _ => (pe_tup (pa_cons (pv 3) (pa_cons (pv 4) (pa_cons (pe_ix ix_tup (pe_ix ix_tup (pv 1) (pv 3) (fun _ _ => rfl)) (pv 4) (fun _ _ => rfl)) pa_nil)))))) pa_nil))))))))
end
end A69
end

section
set_option maxRecDepth 100000
set_option maxHeartbeats 1000000
/-! R69a: readings of the small defs. -/
namespace A69
open PySem PySem.Spec PyProof.Rows L2 KX MP
abbrev rtE (Q : VK) : Ends := { nx := fun _ H' => Q .non H', rt := Q }
local macro_rules | `(tactic| walk_at "n") => `(tactic| dsimp only [rtE, tRet, tAndV, tOrV, tNotV, tCB, tCons, tNil, tVar, tC, tOp, tUn, tChain, tTest, tB, tAnd, tOr, tNot, tIf, tIfS, tSeq, tAsg, tDrop, tNext, gName, tPar, tPar3, tTup, tLst, tCall, tBM, tBM0, tSl, tPart, tNoPart, gTup, gCons, gNil, gSub])
section
variable {K : PySem.W.Frag} {mg : Str → Option Value} (T : TX K mg) {vs : List V} {H : Hp} {Q : VK} {E : XK}
theorem rd_is_integer (h : sp_is_integer T vs H Q E) : t_is_integer T (rtE Q) (start N_is_integer vs) H := by
  unfold t_is_integer; walk_at "n"
  obtain ⟨v, d, rfl, hd, q⟩ := h
  refine ⟨v, rfl, isi_int hd ⟨_, rfl, ite2 (fun e => ?_) fun e => ?_⟩⟩
  · exact ⟨v, rfl, isi_bool hd ⟨_, rfl, by simpa [isInteger, e] using q⟩⟩
  · simpa [isInteger, e] using q
theorem isInteger_iff (d : PyData) : isInteger d = true ↔ ∃ i, d = .int i := by
  cases d <;> simp [isInteger, isIntD, isBl]
theorem rd_is_count (h : sp_is_count T vs H Q E) : t_is_count T (rtE Q) (start N_is_count vs) H := by
  obtain ⟨v, d, rfl, hd, q⟩ := h
  refine ⟨v, rfl, v, d, rfl, hd, _, rfl, ite2 (fun e => ?_) fun e => ?_⟩
  · obtain ⟨i, rfl⟩ := (isInteger_iff d).mp e
    cases hd.int_inv
    exact ⟨_, rfl, i, 0, rfl, rfl, q⟩
  · cases d <;> first | exact q | exact absurd rfl e
theorem rd_is_within (h : sp_is_within T vs H Q E) : t_is_within T (rtE Q) (start N_is_within vs) H := by
  obtain ⟨v, d, lo, hi, rfl, hd, q⟩ := h
  refine ⟨v, rfl, v, d, rfl, hd, _, rfl, ite2 (fun e => ?_) fun e => ?_⟩
  · obtain ⟨i, rfl⟩ := (isInteger_iff d).mp e
    cases hd.int_inv
    refine ⟨_, rfl, _, rfl, lo, i, rfl, rfl, _, rfl, ite2 (fun e => ?_) fun e => ?_⟩
    · exact ⟨_, rfl, i, hi, rfl, rfl, by simpa [isWithin, of_decide_eq_true e] using q⟩
    · have e' : ¬ lo ≤ i := fun z => e (decide_eq_true z)
      simpa [isWithin, e'] using q
  · cases d <;> first | exact q | exact absurd rfl e
theorem rd_is_index (h : sp_is_index T vs H Q E) : t_is_index T (rtE Q) (start N_is_index vs) H := by
  obtain ⟨v, d, many, rfl, hd, q⟩ := h
  refine ⟨v, rfl, v, d, rfl, hd, _, rfl, ite2 (fun e => ?_) fun e => ?_⟩
  · obtain ⟨i, rfl⟩ := (isInteger_iff d).mp e
    cases hd.int_inv
    refine ⟨_, rfl, 0, i, rfl, rfl, _, rfl, ite2 (fun e => ?_) fun e => ?_⟩
    · exact ⟨_, rfl, i, many, rfl, rfl, by simpa [isIndex, of_decide_eq_true e] using q⟩
    · have e' : ¬ (0 : Int) ≤ i := fun z => e (decide_eq_true z)
      simpa [isIndex, e'] using q
  · cases d <;> first | exact q | exact absurd rfl e
theorem isTup_iff (d : PyData) : isTup d = true ↔ ∃ ds, d = .tuple ds := by
  cases d <;> simp [isTup]
theorem rd_is_tuple (h : sp_is_tuple T vs H Q E) : t_is_tuple T (rtE Q) (start N_is_tuple vs) H := by
  unfold t_is_tuple; walk_at "n"
  obtain ⟨v, d, many, rfl, hd, q⟩ := h
  refine ⟨v, rfl, isi_tuple hd ⟨_, rfl, ite2 (fun e => ?_) fun e => ?_⟩⟩
  · obtain ⟨ds, rfl⟩ := (isTup_iff d).mp e
    obtain ⟨a, xs, rfl, hs, ha⟩ := hd.tup_inv
    refine ⟨_, rfl, _, _, rfl, .inr ⟨xs, hs, rfl⟩, _, rfl, rfl, ?_⟩
    have e1 : xs.length = ds.length := ha.length
    rw [e1]
    have e2 : decide (V.int ((ds.length : Nat) : Int) = V.int many) = decide ((ds.length : Int) = many) := by
      by_cases z : (ds.length : Int) = many <;> simp [z]
    rw [e2]
    exact q
  · cases d <;> first | exact q | exact absurd rfl e
theorem rd_plus (h : sp_plus T vs H Q E) : t_plus T (rtE Q) (start N_plus vs) H := by
  obtain ⟨x, y, rfl, q⟩ := h
  cases x with
  | none => exact ⟨_, rfl, rfl, _, rfl, iteT (iteT q)⟩
  | some a =>
    cases y with
    | none => exact ⟨_, rfl, rfl, _, rfl, iteF ⟨_, rfl, rfl, _, rfl, iteT q⟩⟩
    | some b => exact ⟨_, rfl, rfl, _, rfl, iteF ⟨_, rfl, rfl, _, rfl, iteF ⟨_, rfl, _, rfl, a, b, rfl, rfl, q⟩⟩⟩
theorem rd_is_later (h : sp_is_later T vs H Q E) : t_is_later T (rtE Q) (start N_is_later vs) H := by
  obtain ⟨x, y, rfl, q⟩ := h
  cases x with
  | none => exact ⟨_, rfl, rfl, _, rfl, iteF q⟩
  | some a =>
    cases y with
    | none => exact ⟨_, rfl, rfl, _, rfl, iteT ⟨_, rfl, rfl, _, rfl, iteT q⟩⟩
    | some b => exact ⟨_, rfl, rfl, _, rfl, iteT ⟨_, rfl, rfl, _, rfl, iteF ⟨_, rfl, _, rfl, a, b, rfl, rfl, q⟩⟩⟩
end
end A69
end

section
set_option maxRecDepth 100000
set_option maxHeartbeats 1000000
/-! R69b: readings: orders, activities. -/
namespace A69
open PySem PySem.Spec PyProof.Rows L2 KX MP
local macro_rules | `(tactic| walk_at "n") => `(tactic| dsimp only [rtE, tRet, tAndV, tOrV, tNotV, tCB, tCons, tNil, tVar, tC, tOp, tUn, tChain, tTest, tB, tAnd, tOr, tNot, tIf, tIfS, tSeq, tAsg, tDrop, tNext, gName, tPar, tPar3, tTup, tLst, tCall, tBM, tBM0, tSl, tPart, tNoPart, gTup, gCons, gNil, gSub, iRng1, iRng2, iList, iTup, iEnumT, iRgV, tYes])
section
variable {K : PySem.W.Frag} {mg : Str → Option Value} (T : TX K mg) {vs : List V} {H : Hp} {Q : VK} {E : XK}
theorem lex3 (a b c a' b' c' : Int) : Ob.lexAt (fun j => decide ([a, b, c].getD j 0 = [a', b', c'].getD j 0)) (fun j => decide ([a, b, c].getD j 0 ≤ [a', b', c'].getD j 0)) (decide ([a, b, c].length ≤ [a', b', c'].length)) 0 (min [a, b, c].length [a', b', c'].length)
    = leL [a, b, c] [a', b', c'] := by
  have h3 : min [a, b, c].length [a', b', c'].length = 3 := rfl
  rw [h3]
  simp only [Ob.lexAt, leL, List.getD_cons_zero, List.getD_cons_succ, List.length_cons, List.length_nil, Nat.le_refl, decide_eq_true_eq, List.cons_le_cons_iff]
  by_cases h1 : a = a' <;> by_cases h2 : b = b' <;> by_cases h3 : c = c' <;> simp [h1, h2, h3] <;> omega
theorem eAs_get {v : V} {acts : List Acty} (h : Dp K H v (eAs acts)) : ∃ (p : Addr) (xs : List V), v = .ref p ∧ SqT K H p xs ∧ xs.length = acts.length ∧ ∀ (i : Nat) (a : Acty), acts[i]? = some a → ∃ q : Addr, xs[i]? = some (.ref q) ∧ SqT K H q [.int a.1, .int a.2.1, .int a.2.2] := by
  obtain ⟨p, xs, rfl, hs, ha⟩ := h.tup_inv
  refine ⟨p, xs, rfl, hs, by rw [ha.length, List.length_map], fun i a e => ?_⟩
  obtain ⟨w, e1, hw⟩ := ha.get (i := i) (d := eA a) (by rw [List.getElem?_map, e]; rfl)
  obtain ⟨q, ys, rfl, hq, hy⟩ := hw.tup_inv
  have : ys = [.int a.1, .int a.2.1, .int a.2.2] := DpAll.ints_inv (ns := [(a.1 : Int), (a.2.1 : Int), a.2.2]) hy
  rw [this] at hq
  exact ⟨q, e1, hq⟩
def leAt (acts : List Acty) (i : Nat) : Bool := match acts[i]?, acts[i + 1]? with
  | some a, some b => leA a b
  | _, _ => true
theorem inOrder_eq : ∀ acts : List Acty, inOrder acts = ((List.range (acts.length - 1)).map (leAt acts)).all id
  | [] => rfl
  | [_] => rfl
  | a :: b :: r => by
    have ih := inOrder_eq (b :: r)
    show (leA a b && inOrder (b :: r)) = _
    rw [ih]
    have e : (a :: b :: r).length - 1 = ((b :: r).length - 1) + 1 := by simp
    rw [e, List.range_succ_eq_map, List.map_cons, List.all_cons, List.map_map]
    rfl
theorem rd_in_order (h : sp_in_order T vs H Q E) : t_in_order T (rtE Q) (start N_in_order vs) H := by
  unfold t_in_order; walk_at "n"
  obtain ⟨v, acts, rfl, hd, hl, q⟩ := h
  obtain ⟨p, xs, rfl, hs, hlen, hat⟩ := eAs_get hd
  refine lc_def ⟨_, rfl, p, xs, rfl, .inr hs, 1, _, rfl, ⟨by decide, by decide, by omega, by omega⟩, ?_⟩
  have en : ((xs.length : Int) - 1).toNat = acts.length - 1 := by omega
  rw [en]
  refine comp_rng (K := K) (fun i => some (.bool (leAt acts i))) (by omega) (fun i d hi e => by cases e; rfl) ?_ ?_
  · intro i H2 hi s1 Qy Qn h1 _
    walk_at "n"
    refine ⟨rfl, iteT ?_⟩
    have hi' : i + 1 < acts.length := by omega
    obtain ⟨q1, e1, t1⟩ := hat i _ (List.getElem?_eq_getElem (by omega))
    obtain ⟨q2, e2, t2⟩ := hat (i + 1) _ (List.getElem?_eq_getElem hi')
    refine ⟨_, rfl, _, rfl, _, _, rfl, rfl, p, xs, _, _, rfl, rfl, s1.tup hs, ?_, _, rfl, _, rfl, p, xs, _, _, rfl, rfl, s1.tup hs, ?_, q1, q2, [_, _, _], [_, _, _], rfl, rfl, s1.tup t1, s1.tup t2, ?_⟩
    · rw [show (1 : Int) + (i : Int) - 1 = ((i : Nat) : Int) by omega]; exact atI_nat e1
    · rw [show (1 : Int) + (i : Int) = ((i + 1 : Nat) : Int) by omega]; exact atI_nat e2
    · rw [lex3]
      refine h1 _ rfl _ _ (Same.refl _) ?_
      have : leAt acts i = leL [(acts[i].1 : Int), (acts[i].2.1 : Int), acts[i].2.2] [(acts[i+1].1 : Int), (acts[i+1].2.1 : Int), acts[i+1].2.2] := by
        unfold leAt
        rw [List.getElem?_eq_getElem (show i < acts.length by omega), List.getElem?_eq_getElem hi']
        rfl
      rw [this]
      exact .bl _
  · intro D ys H' sm hD hx hy
    rw [fm_some] at hy
    have e := DpAll.bls_inv (ns := (List.range (acts.length - 1)).map (leAt acts)) (by rw [List.map_map]; exact hy)
    refine ⟨D, (List.range (acts.length - 1)).map (leAt acts), rfl, .of (by rw [hx, e]), ?_⟩
    rw [← inOrder_eq]
    exact q _ sm
theorem isTupN_iff {n : Nat} {d : PyData} : isTupN n d = true ↔ ∃ ds, d = .tuple ds ∧ ds.length = n := by
  cases d <;> simp [isTupN]
  omega
theorem isIndex_iff {m : Int} {d : PyData} : isIndex m d = true ↔ ∃ i : Int, d = .int i ∧ 0 ≤ i ∧ i < m := by
  cases d <;> simp [isIndex]
theorem three {α : Type} {l : List α} (h : l.length = 3) : ∃ x y z, l = [x, y, z] := by
  match l, h with
  | [x, y, z], _ => exact ⟨x, y, z, rfl⟩
theorem isAct3 (m : Int) (x y z : PyData) : isAct m (.tuple [x, y, z]) = (isIndex m x && isIndex m y && !(PyData.eqv x y) && isCount z) := by
  cases x <;> cases y <;> simp [isAct, isIndex, PyData.eqv]
  rename_i i j
  have h : (i == j) = decide (i = j) := by
    by_cases z : i = j <;> simp [z]
  rw [h]
theorem isAct_tup {m : Int} {d : PyData} (h : isAct m d = true) : ∃ a b c, d = .tuple [.int a, .int b, .int c] ∧ 0 ≤ a ∧ a < m ∧ 0 ≤ b ∧ b < m ∧ a ≠ b ∧ 0 ≤ c := by
  unfold isAct at h
  split at h
  · rename_i a b z
    cases z <;> simp [isIndex, isCount] at h
    exact ⟨a, b, _, rfl, by omega, by omega, by omega, by omega, h.1.2, h.2⟩
  · cases h
theorem rd_is_activity (h : sp_is_activity T vs H Q E) : t_is_activity T (rtE Q) (start N_is_activity vs) H := by
  unfold t_is_activity; walk_at "n"
  obtain ⟨v, d, many, rfl, hd, q⟩ := h
  refine ⟨_, rfl, v, d, 3, rfl, hd, _, rfl, ite2 (fun e => ?_) fun e => ?_⟩
  · have e' : isTupN 3 d = false := by simpa using e
    have : isAct many d = false := by
      cases hA : isAct many d with
      | false => rfl
      | true =>
        obtain ⟨a, b, c, rfl, _⟩ := isAct_tup hA
        simp [isTupN] at e'
    rw [this] at q
    exact iteT q
  · have e' : isTupN (3 : Nat) d = true := by simpa using e
    obtain ⟨ds, rfl, hl⟩ := isTupN_iff.mp e'
    obtain ⟨x, y, z, rfl⟩ := three hl
    obtain ⟨p, xs, rfl, hs, ha⟩ := hd.tup_inv
    obtain ⟨vx, ex, dx⟩ := ha.get (i := 0) (d := x) rfl
    obtain ⟨vy, ey, dy⟩ := ha.get (i := 1) (d := y) rfl
    obtain ⟨vz, ez, dz⟩ := ha.get (i := 2) (d := z) rfl
    rw [isAct3] at q
    refine ⟨_, rfl, .inr (.inl ⟨p, xs, 0, vx, rfl, rfl, hs, atI_nat ex, ?_⟩)⟩
    refine ⟨_, rfl, vx, x, many, rfl, dx, _, rfl, ite2 (fun e => ?_) fun e => ?_⟩
    · have e1 : isIndex many x = false := by simpa using e
      rw [e1] at q
      exact iteT q
    · have e1 : isIndex many x = true := by simpa using e
      refine ⟨_, rfl, .inr (.inl ⟨p, xs, 1, vy, rfl, rfl, hs, atI_nat ey, ?_⟩)⟩
      refine ⟨_, rfl, vy, y, many, rfl, dy, _, rfl, ?_⟩
      by_cases e2 : isIndex many y = true
      · obtain ⟨a, rfl, _⟩ := isIndex_iff.mp e1
        obtain ⟨b, rfl, _⟩ := isIndex_iff.mp e2
        cases dx.int_inv
        cases dy.int_inv
        rw [e1, e2] at q
        simp only [e2, Bool.not_true]
        refine iteF ⟨_, rfl, .inr (.inl ⟨p, xs, 0, _, rfl, rfl, hs, atI_nat ex, ?_⟩)⟩
        refine ⟨_, rfl, .inr (.inl ⟨p, xs, 1, _, rfl, rfl, hs, atI_nat ey, ?_⟩)⟩
        refine ⟨_, _, .int a, .int b, rfl, rfl, _, rfl, ite2 (fun e => ?_) fun e => ?_⟩
        · refine ⟨_, rfl, .inr (.inl ⟨p, xs, 2, vz, rfl, rfl, hs, atI_nat ez, ?_⟩)⟩
          rw [e] at q
          exact ⟨vz, z, rfl, dz, q⟩
        · have e3 : (!PyData.eqv (.int a) (.int b)) = false := by simpa using e
          rw [e3] at q
          exact q
      · have e2' : isIndex many y = false := by simpa using e2
        rw [e1, e2'] at q
        simp only [e2', Bool.not_false]
        first | exact iteT q | exact q
theorem rd_are_activities (h : sp_are_activities T vs H Q E) : t_are_activities T (rtE Q) (start N_are_activities vs) H := by
  unfold t_are_activities; walk_at "n"
  obtain ⟨v, ds, many, rfl, hd, q⟩ := h
  obtain ⟨p, xs, rfl, hs, ha⟩ := hd.tup_inv
  have hl := ha.length
  have e0 : decide ((xs.length : Int) ≤ 120) = decide (ds.length ≤ 120) := by
    by_cases z : ds.length ≤ 120
    · rw [decide_eq_true z]; exact decide_eq_true (by omega)
    · rw [decide_eq_false z]; exact decide_eq_false (by omega)
  refine ⟨_, rfl, p, xs, rfl, .inr hs, _, _, rfl, rfl, _, rfl, ?_⟩
  rw [e0]
  by_cases hc : ds.length ≤ 120
  · rw [decide_eq_true hc] at q ⊢
    refine iteT (lc_def ⟨_, rfl, p, rfl, ⟨xs, hs⟩, ?_⟩)
    refine comp_tup (K := K) hs (fun i => (ds[i]?).map fun d => .bool (isAct many d)) (by omega) (fun i d hi e => ?_) ?_ ?_
    · cases e1 : ds[i]? with
      | none => rw [e1] at e; cases e
      | some z => rw [e1] at e; cases e; rfl
    · intro i x H2 ei s1 Qy Qn h1 _
      walk_at "n"
      obtain ⟨d, ed, dx⟩ := ha.getV ei
      refine ⟨rfl, iteT ⟨_, rfl, _, rfl, x, d, many, rfl, dx.same s1, ?_⟩⟩
      exact h1 _ (by rw [ed]; rfl) _ _ (Same.refl _) (.bl _)
    · intro D ys H' sm hD hx hy
      have e1 : (List.range xs.length).filterMap (fun i => (ds[i]?).map fun d => PyData.bool (isAct many d)) = (ds.map (isAct many)).map PyData.bool := by
        rw [hl, fm_map ds (fun d => PyData.bool (isAct many d)), List.map_map]
        rfl
      rw [e1] at hy
      have e := DpAll.bls_inv hy
      refine ⟨D, ds.map (isAct many), rfl, .of (by rw [hx, e]), ?_⟩
      rw [List.all_map]
      exact q _ sm
  · rw [decide_eq_false hc] at q ⊢
    exact iteF (q _ (Same.refl _))
end
end A69
end

section
set_option maxRecDepth 100000
set_option maxHeartbeats 1000000
/-! R69c: readings: what comes to each event, sorted events. -/
namespace A69
open PySem PySem.Spec PyProof.Rows L2 KX MP
local macro_rules | `(tactic| walk_at "n") => `(tactic| dsimp only [rtE, tRet, tAndV, tOrV, tNotV, tCB, tCons, tNil, tVar, tC, tOp, tUn, tChain, tTest, tB, tAnd, tOr, tNot, tIf, tIfS, tSeq, tAsg, tDrop, tNext, gName, tPar, tPar3, tTup, tLst, tCall, tBM, tBM0, tSl, tPart, tNoPart, gTup, gCons, gNil, gSub, iRng1, iRng2, iList, iTup, iEnumT, iRgV, tYes])
section
variable {K : PySem.W.Frag} {mg : Str → Option Value} (T : TX K mg) {vs : List V} {H : Hp} {Q : VK} {E : XK}
def toB (acts : List Acty) (b k : Nat) : Bool := ((acts[k]?).map fun a => a.2.1) == some b
def comingU (acts : List Acty) (b i : Nat) : List Nat := (List.range i).filter (toB acts b)
theorem comingU_len (acts : List Acty) (b : Nat) : comingU acts b acts.length = comingL acts b := rfl
theorem comingU_succ (acts : List Acty) (b i : Nat) : comingU acts b (i + 1) = comingU acts b i ++ if toB acts b i = true then [i] else [] := by
  unfold comingU
  rw [List.range_succ, List.filter_append]
  congr 1
  by_cases h : toB acts b i = true <;> simp [h]
theorem comingU_le (acts : List Acty) (b i : Nat) : (comingU acts b i).length ≤ i := by
  unfold comingU
  have := List.length_filter_le (toB acts b) (List.range i)
  simpa using this
theorem small_line {n : Nat} (h : n ≤ 100000) : n < sizeLine := Nat.lt_of_le_of_lt h (by decide)
theorem rd_coming_to (h : sp_coming_to T vs H Q E) : t_coming_to T (rtE Q) (start N_coming_to vs) H := by
  unfold t_coming_to; walk_at "n"
  obtain ⟨n, v, acts, rfl, hd, hg, q⟩ := h
  obtain ⟨p0, xs, rfl, hs, hlen, hat⟩ := eAs_get hd
  have h20 := hg.n20
  have h120 := hg.most
  refine lc_def ⟨_, rfl, _, rfl, by omega, by omega, ?_⟩
  have en : ((n : Int)).toNat = n := by omega
  rw [en]
  refine comp_new (fun _ => []) (by omega) ?_ ?_
  · intro i H2 hi s1 Qy Qn h1
    walk_at "n"
    exact ⟨rfl, iteT ⟨Nat.zero_le _, fun o no => h1 o _ (same_upd no) no upd_same⟩⟩
  · intro p ps H1 s1 hp hx hpl hnd hfr hc
    refine ⟨_, rfl, p0, xs, rfl, s1.tup hs, ?_⟩
    refine for_it walk_enumT (fun i σ H' => ∃ y3 y4 y5, σ = [some (.int n), some (.ref p0), some (.ref p), y3, y4, y5] ∧ Same H H' ∧ H' p = some (.lst (ps.map V.ref)) ∧ ∀ b q, ps[b]? = some q → H' q = some (.lst (nats (comingU acts b i))))
      ⟨none, none, none, rfl, s1, hx, fun b q e => hc b q e⟩ (fun i σ H' _ p => by obtain ⟨_, _, _, _, sm, _⟩ := p; exact sm.tup hs) ?_ ?_
    · rintro i x σ H2 H3 hi ⟨y3, y4, y5, rfl, sm, ep, el⟩ ⟨T0, x1, x2, rfl, nT, rfl, e1, e2⟩
      cases e1
      have hi' : i < acts.length := by omega
      obtain ⟨qa, ea, ta⟩ := hat i _ (List.getElem?_eq_getElem hi')
      cases ea.symm.trans e2
      have smT : Same H (upd H2 T0 (.tup [.int (i : Nat), .ref qa])) := sm.upd nT
      have hb : acts[i].2.1 < n := (hg.ev _ _ _ (List.getElem_mem hi')).2.1
      obtain ⟨l, el1⟩ : ∃ l, ps[acts[i].2.1]? = some l := ⟨_, List.getElem?_eq_getElem (show acts[i].2.1 < ps.length by omega)⟩
      have hl := el _ l el1
      have hlm : l ∈ ps := List.mem_of_getElem? el1
      have epT : upd H2 T0 (.tup [.int (i : Nat), .ref qa]) p = some (.lst (ps.map V.ref)) := upd_at ep nT
      have hlT : upd H2 T0 (.tup [.int (i : Nat), .ref qa]) l = some (.lst (nats (comingU acts acts[i].2.1 i))) := upd_at hl nT
      refine ⟨T0, _, rfl, .of upd_same, rfl, _, _, rfl, _, _, rfl, rfl, ?_⟩
      refine ⟨_, rfl, _, rfl, qa, _, 1, _, rfl, rfl, smT.tup ta, atI_nat (j := 1) rfl, p, ps.map V.ref, _, .ref l, rfl, rfl, .of epT, atI_nat ?_, ?_⟩
      · rw [List.getElem?_map, el1]; rfl
      refine ⟨.inl ⟨rfl, _, .inl (.inl hlT)⟩, _, rfl, l, _, _, rfl, rfl, hlT, ?_, ?_⟩
      · unfold nats
        rw [List.length_map]
        have := comingU_le acts acts[i].2.1 i
        exact small_line (by omega)
      · refine ⟨_, _, _, rfl, smT.set (hfr l hlm).1, ?_, fun b q' eq => ?_⟩
        · rw [upd_ne (Ne.symm (hfr l hlm).2)]; exact epT
        · rw [comingU_succ]
          by_cases hbb : b = acts[i].2.1
          · subst hbb
            rw [el1] at eq; cases eq
            rw [upd_same]
            have : toB acts acts[i].2.1 i = true := by simp [toB, List.getElem?_eq_getElem hi']
            rw [if_pos this]
            simp [nats]
          · have hne : q' ≠ l := fun z => by
              subst z
              obtain ⟨hb1, e1⟩ := List.getElem?_eq_some_iff.mp eq
              obtain ⟨hb2, e2⟩ := List.getElem?_eq_some_iff.mp el1
              exact hbb ((List.getElem_inj hnd).mp (e1.trans e2.symm))
            have hf : toB acts b i = false := by
              simp [toB, List.getElem?_eq_getElem hi']
              exact fun z => hbb z.symm
            rw [upd_ne hne, hf]
            simp only [Bool.false_eq_true, if_false, List.append_nil]
            exact upd_at (el b q' eq) nT
    · rintro σ H2 ⟨y3, y4, y5, rfl, sm, ep, el⟩
      rw [hlen] at el
      exact ⟨_, rfl, q H2 p ps sm ⟨hp, ep, hpl, hnd, hfr, el⟩⟩
end
end A69
end

section
set_option maxRecDepth 100000
set_option maxHeartbeats 2000000
/-! R69d: sorted events: what holds, apart; then the reading. -/
namespace A69
open PySem PySem.Spec PyProof.Rows L2 KX MP
local macro_rules | `(tactic| walk_at "n") => `(tactic| dsimp only [rtE, tRet, tAndV, tOrV, tNotV, tCB, tCons, tNil, tVar, tC, tOp, tUn, tChain, tTest, tB, tAnd, tOr, tNot, tIf, tIfS, tSeq, tAsg, tDrop, tNext, gName, tPar, tPar3, tTup, tLst, tCall, tBM, tBM0, tSl, tPart, tNoPart, gTup, gCons, gNil, gSub, iRng1, iRng2, iList, iTup, iEnumT, iRgV, tYes])
/-! ### what holds -/
def frA (A : List Acty) (k : Nat) : Option Nat := (A[k]?).map fun a => a.1
def remQ (A : List Acty) (F : List Nat) (e i b k : Nat) : Bool := toB A b k && !(F.any fun x => frA A k == some x) && !(frA A k == some e && decide (k < i))
def remP (A : List Acty) (F : List Nat) (e i b : Nat) : List Nat := (List.range A.length).filter (remQ A F e i b)
def rem (A : List Acty) (F : List Nat) (b : Nat) : List Nat := (List.range A.length).filter fun k => toB A b k && !(F.any fun x => frA A k == some x)
structure SInv (n : Nat) (A : List Acty) (F R : List Nat) : Prop where
  nd : (F ++ R).Nodup
  lt : ∀ x ∈ F ++ R, x < n
  none : ∀ b, b < n → (rem A F b = [] ↔ b ∈ F ++ R)
  ord : ∀ i b, F[i]? = some b → ∀ a d, (a, b, d) ∈ A → a ∈ F.take i
structure SIn (n : Nat) (A : List Acty) (F : List Nat) (e i : Nat) (R : List Nat) : Prop where
  nd : (F ++ [e] ++ R).Nodup
  lt : ∀ x ∈ F ++ [e] ++ R, x < n
  none : ∀ b, b < n → (remP A F e i b = [] ↔ b ∈ F ++ [e] ++ R)
theorem rem_nodup (A : List Acty) (F : List Nat) (e i b : Nat) : (remP A F e i b).Nodup := List.nodup_range.sublist List.filter_sublist
theorem rem_zero (A : List Acty) (F : List Nat) (e b : Nat) : remP A F e 0 b = rem A F b := by
  unfold remP rem
  congr 1
  funext k
  simp [remQ]
theorem rem_end (A : List Acty) (F : List Nat) (e b : Nat) : remP A F e A.length b = rem A (F ++ [e]) b := by
  unfold remP rem
  apply List.filter_congr
  intro k hk
  have hk' : k < A.length := List.mem_range.mp hk
  simp only [remQ, hk', decide_true, Bool.and_true, List.any_append, List.any_cons, List.any_nil, Bool.or_false, Bool.not_or, Bool.and_assoc]
theorem rem_same {A : List Acty} {F : List Nat} {e i b : Nat} (h : toB A b i = false ∨ frA A i ≠ some e) : remP A F e (i + 1) b = remP A F e i b := by
  unfold remP
  congr 1
  funext k
  unfold remQ
  by_cases hk : k = i
  · subst hk
    rcases h with h | h
    · simp [h]
    · have : (frA A k == some e) = false := by simpa using h
      simp [this]
  · have : decide (k < i + 1) = decide (k < i) := by
      by_cases z : k < i
      · rw [decide_eq_true z]; exact decide_eq_true (by omega)
      · rw [decide_eq_false z]; exact decide_eq_false (by omega)
    rw [this]
theorem rem_drop {A : List Acty} {F : List Nat} {e i b : Nat} (hf : frA A i = some e) : remP A F e (i + 1) b = (remP A F e i b).filter fun y => decide (y ≠ i) := by
  unfold remP
  rw [List.filter_filter]
  congr 1
  funext k
  unfold remQ
  by_cases hk : k = i
  · subst hk
    simp [hf]
  · have : decide (k < i + 1) = decide (k < i) := by
      by_cases z : k < i
      · rw [decide_eq_true z]; exact decide_eq_true (by omega)
      · rw [decide_eq_false z]; exact decide_eq_false (by omega)
    rw [this]
    simp [hk]
theorem SInv.start (n : Nat) (A : List Acty) : SInv n A [] ((List.range n).filter fun b => (comingL A b).isEmpty) := by
  have e : ∀ b, rem A [] b = comingL A b := fun b => by
    unfold rem comingL
    congr 1
    funext k
    simp [toB]
  refine ⟨by simpa using List.nodup_range.sublist List.filter_sublist, fun x hx => ?_, fun b hb => ?_, fun i b h => by simp at h⟩
  · simp only [List.nil_append, List.mem_filter, List.mem_range] at hx
    exact hx.1
  · rw [e]
    simp only [List.nil_append, List.mem_filter, List.mem_range, hb, true_and, List.isEmpty_iff]
theorem SInv.topo {n : Nat} {A : List Acty} {F : List Nat} (h : SInv n A F []) : Topo n A F := by
  have hn := h.nd
  rw [List.append_nil] at hn
  refine ⟨hn, fun e he => h.lt e (by simpa using he), h.ord, fun b hb hF => ?_⟩
  have h1 := h.none b hb
  rw [List.append_nil] at h1
  have h2 : rem A F b ≠ [] := fun z => hF (h1.mp z)
  obtain ⟨k, hk⟩ := List.exists_mem_of_ne_nil _ h2
  simp only [rem, List.mem_filter, List.mem_range, Bool.and_eq_true] at hk
  obtain ⟨hl, h3, h4⟩ := hk
  have e : A[k]? = some A[k] := List.getElem?_eq_getElem hl
  simp only [toB, frA, e, Option.map_some, beq_iff_eq, Option.some.injEq, Bool.not_eq_true', List.any_eq_false] at h3 h4
  refine ⟨A[k].1, A[k].2.2, ?_, fun hm => h4 _ hm rfl⟩
  have : (A[k].1, b, A[k].2.2) = A[k] := by rw [← h3]
  rw [this]
  exact List.getElem_mem hl
theorem mem_erase {R : List Nat} {e x : Nat} : x ∈ R.filter (fun y => decide (y ≠ e)) ↔ x ∈ R ∧ x ≠ e := by simp
theorem SInv.take {n : Nat} {A : List Acty} {F R : List Nat} {e : Nat} (h : SInv n A F R) (he : e ∈ R) : SIn n A F e 0 (R.filter fun y => decide (y ≠ e)) := by
  have hnd := h.nd
  rw [List.nodup_append] at hnd
  obtain ⟨h1, h2, h3⟩ := hnd
  have mem : ∀ x, x ∈ F ++ [e] ++ R.filter (fun y => decide (y ≠ e)) ↔ x ∈ F ++ R := fun x => by
    simp only [List.append_assoc, List.mem_append, List.mem_singleton, mem_erase]
    by_cases hx : x = e
    · subst hx; simp [he]
    · simp [hx]
  refine ⟨?_, fun x hx => h.lt x ((mem x).mp hx), fun b hb => by rw [rem_zero, mem]; exact h.none b hb⟩
  rw [List.append_assoc, List.nodup_append]
  refine ⟨h1, ?_, fun a ha b hb => ?_⟩
  · rw [List.singleton_append, List.nodup_cons]
    refine ⟨fun hm => (mem_erase.mp hm).2 rfl, h2.sublist List.filter_sublist⟩
  · rcases List.mem_append.mp hb with hb | hb
    · have : b = e := by simpa using hb
      rw [this]; exact h3 a ha e he
    · exact h3 a ha b (mem_erase.mp hb).1
theorem SIn.close {n : Nat} {A : List Acty} {F R R0 : List Nat} {e : Nat} (h0 : SInv n A F R0) (he : e ∈ R0) (h : SIn n A F e A.length R) : SInv n A (F ++ [e]) R := by
  refine ⟨h.nd, h.lt, fun b hb => by rw [← rem_end]; exact h.none b hb, fun i b hi a d hm => ?_⟩
  rw [List.getElem?_append] at hi
  split at hi
  · rename_i hlt
    have := h0.ord i b hi a d hm
    rw [List.take_append_of_le_length (by omega)]
    exact this
  · rename_i hlt
    have hb : i - F.length = 0 ∧ b = e := by
      have h1 := (List.getElem?_eq_some_iff.mp hi).1
      have h0' : i - F.length = 0 := by simpa using h1
      rw [h0'] at hi
      exact ⟨h0', by simpa using hi.symm⟩
    have hi' : i = F.length := by omega
    rw [hi', List.take_append_of_le_length (Nat.le_refl _), List.take_length]
    obtain ⟨_, rfl⟩ := hb
    have hlt' : b < n := h0.lt b (List.mem_append_right _ he)
    have hz := (h0.none b hlt').mpr (List.mem_append_right _ he)
    obtain ⟨k, hk⟩ := List.mem_iff_getElem?.mp hm
    apply Classical.byContradiction
    intro hF
    have : k ∈ rem A F b := by
      have hkl := (List.getElem?_eq_some_iff.mp hk).1
      simp only [rem, List.mem_filter, List.mem_range, hkl, true_and, Bool.and_eq_true, toB, frA, hk, Option.map_some, beq_self_eq_true, Bool.not_eq_true', List.any_eq_false]
      intro x hx
      simp only [beq_iff_eq, Option.some.injEq]
      rintro rfl
      exact hF hx
    rw [hz] at this
    cases this
/-- an activity from here: it is among what comes to its end, and is taken out -/
theorem SIn.mem {n : Nat} {A : List Acty} {F R : List Nat} {e i b : Nat} (h : SIn n A F e i R) (hi : i < A.length) (hf : frA A i = some e) (hb : toB A b i = true) : i ∈ remP A F e i b := by
  have he : e ∉ F := fun z => by
    have := h.nd
    rw [List.append_assoc, List.nodup_append] at this
    exact this.2.2 e z e (by simp) rfl
  simp only [remP, List.mem_filter, List.mem_range, hi, true_and, remQ, hb, hf, Bool.true_and, Nat.lt_irrefl, decide_false, Bool.and_false, Bool.not_false, Bool.and_true, Bool.not_eq_true', List.any_eq_false]
  intro x hx
  simp only [beq_iff_eq, Option.some.injEq]
  rintro rfl
  exact he hx
theorem SIn.step_no {n : Nat} {A : List Acty} {F R : List Nat} {e i : Nat} (h : SIn n A F e i R) (hf : frA A i ≠ some e) : SIn n A F e (i + 1) R :=
  ⟨h.nd, h.lt, fun b hb => by rw [rem_same (.inr hf)]; exact h.none b hb⟩
theorem SIn.step_keep {n : Nat} {A : List Acty} {F R : List Nat} {e i b0 : Nat} (h : SIn n A F e i R) (hi : i < A.length) (hf : frA A i = some e) (hb0 : toB A b0 i = true) (hne : remP A F e (i + 1) b0 ≠ []) : SIn n A F e (i + 1) R := by
  refine ⟨h.nd, h.lt, fun b hb => ?_⟩
  by_cases hbb : b = b0
  · subst hbb
    have h1 := h.mem hi hf hb0
    constructor
    · intro z; exact absurd z hne
    · intro z
      rw [(h.none b hb).mpr z] at h1
      cases h1
  · have : toB A b i = false := by
      simp only [toB, List.getElem?_eq_getElem hi, Option.map_some, beq_iff_eq, Option.some.injEq] at hb0
      simp only [toB, List.getElem?_eq_getElem hi, Option.map_some, beq_eq_false_iff_ne, ne_eq, Option.some.injEq]
      rintro rfl
      exact hbb hb0
    rw [rem_same (.inl this)]
    exact h.none b hb
theorem SIn.step_new {n : Nat} {A : List Acty} {F R : List Nat} {e i b0 : Nat} (h : SIn n A F e i R) (hi : i < A.length) (hf : frA A i = some e) (hb0 : toB A b0 i = true) (hlt : b0 < n) (hnil : remP A F e (i + 1) b0 = []) : SIn n A F e (i + 1) (R ++ [b0]) := by
  have h1 := h.mem hi hf hb0
  have hnot : b0 ∉ F ++ [e] ++ R := fun z => by
    rw [(h.none b0 hlt).mpr z] at h1
    cases h1
  refine ⟨?_, fun x hx => ?_, fun b hb => ?_⟩
  · rw [← List.append_assoc, List.nodup_append]
    refine ⟨h.nd, by simp, fun a ha b hb => ?_⟩
    have : b = b0 := by simpa using hb
    rw [this]; exact fun z => hnot (z ▸ ha)
  · rw [← List.append_assoc] at hx
    rcases List.mem_append.mp hx with hx | hx
    · exact h.lt x hx
    · have : x = b0 := by simpa using hx
      rw [this]; exact hlt
  · rw [← List.append_assoc, List.mem_append, List.mem_singleton]
    by_cases hbb : b = b0
    · subst hbb
      simp [hnil]
    · have : toB A b i = false := by
        simp only [toB, List.getElem?_eq_getElem hi, Option.map_some, beq_iff_eq, Option.some.injEq] at hb0
        simp only [toB, List.getElem?_eq_getElem hi, Option.map_some, beq_eq_false_iff_ne, ne_eq, Option.some.injEq]
        rintro rfl
        exact hbb hb0
      rw [rem_same (.inl this), h.none b hb]
      simp [hbb]
end A69
end

section
set_option maxRecDepth 100000
set_option maxHeartbeats 2000000
/-! R69e: the reading of sorted_events. -/
namespace A69
open PySem PySem.Spec PyProof.Rows L2 KX MP
local macro_rules | `(tactic| walk_at "n") => `(tactic| dsimp only [rtE, tRet, tAndV, tOrV, tNotV, tCB, tCons, tNil, tVar, tC, tOp, tUn, tChain, tTest, tB, tAnd, tOr, tNot, tIf, tIfS, tSeq, tAsg, tDrop, tNext, gName, tPar, tPar3, tTup, tLst, tCall, tBM, tBM0, tSl, tPart, tNoPart, gTup, gCons, gNil, gSub, iRng1, iRng2, iList, iTup, iEnumT, iRgV, tYes])
structure SAd (H : Hp) (p r f : Addr) (ps : List Addr) : Prop where
  nd : ps.Nodup
  fr : H p = none ∧ H r = none ∧ H f = none ∧ ∀ q ∈ ps, H q = none
  ne : p ≠ r ∧ p ≠ f ∧ r ≠ f
  out : p ∉ ps ∧ r ∉ ps ∧ f ∉ ps
structure SHp (H H' : Hp) (p r f : Addr) (ps : List Addr) (F R : List Nat) (ls : Nat → List Nat) : Prop where
  same : Same H H'
  hp : H' p = some (.lst (ps.map V.ref))
  hr : H' r = some (.lst (nats R))
  hf : H' f = some (.lst (nats F))
  hl : ∀ b q, ps[b]? = some q → H' q = some (.lst (nats (ls b)))
section
variable {H H' : Hp} {p r f : Addr} {ps : List Addr} {F R : List Nat} {ls : Nat → List Nat}
theorem SHp.new {T : Addr} {o : HO} (h : SHp H H' p r f ps F R ls) (hT : H' T = none) : SHp H (upd H' T o) p r f ps F R ls :=
  ⟨h.same.upd hT, upd_at h.hp hT, upd_at h.hr hT, upd_at h.hf hT, fun b q e => upd_at (h.hl b q e) hT⟩
theorem ne_mem {q a : Addr} {b : Nat} (hq : ps[b]? = some q) (ha : a ∉ ps) : q ≠ a := fun z => ha (z ▸ List.mem_of_getElem? hq)
theorem SHp.setR {R' : List Nat} (a : SAd H p r f ps) (h : SHp H H' p r f ps F R ls) : SHp H (upd H' r (.lst (nats R'))) p r f ps F R' ls :=
  ⟨h.same.set a.fr.2.1, by rw [upd_ne a.ne.1]; exact h.hp, upd_same, by rw [upd_ne (Ne.symm a.ne.2.2)]; exact h.hf, fun b q e => by rw [upd_ne (ne_mem e a.out.2.1)]; exact h.hl b q e⟩
theorem SHp.setF {F' : List Nat} (a : SAd H p r f ps) (h : SHp H H' p r f ps F R ls) : SHp H (upd H' f (.lst (nats F'))) p r f ps F' R ls :=
  ⟨h.same.set a.fr.2.2.1, by rw [upd_ne a.ne.2.1]; exact h.hp, by rw [upd_ne a.ne.2.2]; exact h.hr, upd_same, fun b q e => by rw [upd_ne (ne_mem e a.out.2.2)]; exact h.hl b q e⟩
theorem SHp.setL {b0 : Nat} {q0 : Addr} {L : List Nat} (a : SAd H p r f ps) (h : SHp H H' p r f ps F R ls) (h0 : ps[b0]? = some q0) {ls' : Nat → List Nat} (e0 : ls' b0 = L) (e1 : ∀ b, b ≠ b0 → ls' b = ls b) :
    SHp H (upd H' q0 (.lst (nats L))) p r f ps F R ls' := by
  have hm : q0 ∈ ps := List.mem_of_getElem? h0
  refine ⟨h.same.set (a.fr.2.2.2 q0 hm), ?_, ?_, ?_, fun b q e => ?_⟩
  · rw [upd_ne (fun z : p = q0 => a.out.1 (z ▸ hm))]; exact h.hp
  · rw [upd_ne (fun z : r = q0 => a.out.2.1 (z ▸ hm))]; exact h.hr
  · rw [upd_ne (fun z : f = q0 => a.out.2.2 (z ▸ hm))]; exact h.hf
  · by_cases hb : b = b0
    · subst hb
      rw [h0] at e; cases e
      rw [upd_same, e0]
    · have hne : q ≠ q0 := fun z => by
        subst z
        obtain ⟨h1, e1⟩ := List.getElem?_eq_some_iff.mp e
        obtain ⟨h2, e2⟩ := List.getElem?_eq_some_iff.mp h0
        exact hb ((List.getElem_inj a.nd).mp (e1.trans e2.symm))
      rw [upd_ne hne, e1 b hb]
      exact h.hl b q e
theorem SHp.ls_eq {ls' : Nat → List Nat} (h : SHp H H' p r f ps F R ls) (e : ∀ b, b < ps.length → ls' b = ls b) : SHp H H' p r f ps F R ls' :=
  ⟨h.same, h.hp, h.hr, h.hf, fun b q eq => by rw [e b (List.getElem?_eq_some_iff.mp eq).1]; exact h.hl b q eq⟩
end
section
variable {K : PySem.W.Frag} {mg : Str → Option Value} (T : TX K mg) {vs : List V} {H : Hp} {Q : VK} {E : XK}
theorem nats_nil_iff (l : List Nat) : nats l = [] ↔ l = [] := by simp [nats]
theorem rd_sorted_events (h : sp_sorted_events T vs H Q E) : t_sorted_events T (rtE Q) (start N_sorted_events vs) H := by
  unfold t_sorted_events; walk_at "n"
  obtain ⟨n, v, acts, rfl, hd, hg, q⟩ := h
  obtain ⟨p0, xs, rfl, hs, hlen, hat⟩ := eAs_get hd
  have h20 := hg.n20
  have h120 := hg.most
  refine ⟨_, rfl, _, rfl, n, _, acts, rfl, hd, hg, fun H1 p ps s1 cm => ?_⟩
  refine ⟨Nat.zero_le _, fun f nf => ⟨by show 2 ≤ sizeLine; decide, fun t nt => ?_⟩⟩
  have hpf : p ≠ f := fun z => by rw [z] at cm; rw [cm.at_] at nf; cases nf
  have hfps : f ∉ ps := fun z => by
    obtain ⟨k, hk⟩ := List.mem_iff_getElem?.mp z
    have := cm.lists k f hk
    rw [nf] at this; cases this
  have hp2 : upd H1 f (.lst []) p = some (.lst (ps.map V.ref)) := upd_at cm.at_ nf
  have hl2 : ∀ i q, ps[i]? = some q → upd H1 f (.lst []) q = some (.lst (nats (comingL acts i))) := fun i q e => upd_at (cm.lists i q e) nf
  have s2 : Same H (upd H1 f (.lst [])) := s1.upd nf
  have s3 : Same H (upd (upd H1 f (.lst [])) t (.tup [.ref p, .ref f])) := s2.upd nt
  refine ⟨t, _, rfl, .of upd_same, rfl, _, _, rfl, _, _, rfl, rfl, ?_⟩
  -- ready = [event for event in range(many) if coming[event] == []]
  refine lc_def ⟨_, rfl, _, rfl, by omega, by omega, ?_⟩
  have en : ((n : Int)).toNat = n := by omega
  rw [en]
  refine comp_rng (K := K) (fun b => if (comingL acts b).isEmpty = true then some (natD b) else none) (by omega) (fun i d hi e => ?_) ?_ ?_
  · split at e
    · cases e; rfl
    · cases e
  · intro i H2 hi s4 Qy Qn h1 h2
    walk_at "n"
    obtain ⟨l, el⟩ : ∃ l, ps[i]? = some l := ⟨_, List.getElem?_eq_getElem (show i < ps.length by rw [cm.len]; exact hi)⟩
    have hpc : H2 p = some (.lst (ps.map V.ref)) := s4 _ _ (upd_at hp2 nt)
    have hlc : H2 l = some (.lst (nats (comingL acts i))) := s4 _ _ (upd_at (hl2 i l el) nt)
    refine ⟨rfl, _, rfl, _, rfl, p, _, _, .ref l, rfl, rfl, .of hpc, ?_, Nat.zero_le _, fun o no => ?_⟩
    · rw [show (0 : Int) + (i : Int) = ((i : Nat) : Int) by omega]
      exact atI_nat (by rw [List.getElem?_map, el]; rfl)
    · refine eq_nil (.of (upd_at hlc no)) (.of upd_same) ⟨_, rfl, ?_⟩
      by_cases hz : (comingL acts i).isEmpty = true
      · rw [hz]
        refine iteT ⟨_, rfl, h1 (natD i) (by rw [if_pos hz]) _ _ (same_upd no) ?_⟩
        rw [show (0 : Int) + (i : Int) = ((i : Nat) : Int) by omega]
        exact .int _
      · have hz' : (comingL acts i).isEmpty = false := by simpa using hz
        rw [hz']
        exact iteF (h2 (by rw [if_neg hz]) _ (same_upd no))
  · intro r ys H2 s4 nr hr hy
    have e1 : (List.range n).filterMap (fun b => if (comingL acts b).isEmpty = true then some (natD b) else none) = ((List.range n).filter fun b => (comingL acts b).isEmpty).map natD := by
      rw [← List.filterMap_eq_filter, List.map_filterMap]
      congr 1
      funext b
      by_cases hz : (comingL acts b).isEmpty = true <;> simp [hz, Option.guard]
    rw [e1] at hy
    have ey := nats_inv hy
    subst ey
    have hpr : p ≠ r := fun z => by rw [← z] at nr; rw [upd_at hp2 nt] at nr; cases nr
    have hrf : r ≠ f := fun z => by
      rw [z] at nr
      have := upd_at (a := t) (o := .tup [.ref p, .ref f]) (upd_same (H := H1) (a := f) (o := .lst [])) nt
      rw [this] at nr; cases nr
    have hrps : r ∉ ps := fun z => by
      obtain ⟨k, hk⟩ := List.mem_iff_getElem?.mp z
      rw [upd_at (hl2 k r hk) nt] at nr; cases nr
    have ad : SAd H p r f ps := ⟨cm.nd, ⟨cm.new, s3.free nr, s1.free nf, fun q hq => (cm.fresh q hq).1⟩, ⟨hpr, hpf, hrf⟩, ⟨fun z => (cm.fresh p z).2 rfl, hrps, hfps⟩⟩
    have sh0 : SHp H H2 p r f ps [] ((List.range n).filter fun b => (comingL acts b).isEmpty) (rem acts []) := by
      refine ⟨s3.trans s4, s4 _ _ (upd_at hp2 nt), hr, s4 _ _ (upd_at upd_same nt), fun b q e => ?_⟩
      have e2 : rem acts [] b = comingL acts b := by
        unfold rem comingL
        congr 1
        funext k
        simp [toB]
      rw [e2]
      exact s4 _ _ (upd_at (hl2 b q e) nt)
    refine while_by (fun σ H' => ∃ F R y5 y6 y7 y8, σ = [some (.int n), some (.ref p0), some (.ref r), some (.ref p), some (.ref f), y5, y6, y7, y8] ∧ SHp H H' p r f ps F R (rem acts F) ∧ SInv n acts F R)
      (fun σ H' => n - (match H' f with | some (.lst l) => l.length | _ => 0)) ⟨[], _, _, _, _, _, rfl, sh0, SInv.start n acts⟩ ?_ (fun σ H Q1 Q2 hm c => ?_)
    · rintro σ H3 ⟨F, R, y5, y6, y7, y8, rfl, sh, si⟩
      walk_at "n"
      refine ⟨_, rfl, Nat.zero_le _, fun o no => ?_⟩
      refine ne_nil (.of (upd_at sh.hr no)) (.of upd_same) ⟨_, rfl, ?_⟩
      have sh1 := sh.new (o := .lst []) no
      cases R with
      | nil =>
        refine iteF ⟨_, rfl, q _ f F sh1.same ?_ sh1.hf si.topo⟩
        exact ad.fr.2.2.1
      | cons r0 R0 =>
        refine iteT ?_
        generalize hR : r0 :: R0 = R at *
        have hRpos : 0 < R.length := by rw [← hR]; simp
        refine ⟨_, rfl, r, R.map fun (k : Nat) => (k : Int), rfl, .of (by rw [← nats_ints]; exact sh1.hr), by rw [List.length_map]; exact hRpos, fun m hm _ => ?_⟩
        obtain ⟨e, he, rfl⟩ := List.mem_map.mp hm
        have heF : e < n := si.lt e (List.mem_append_right _ he)
        have hRn : R.Nodup := (List.nodup_append.mp si.nd).2.1
        have hFn : F.Nodup := (List.nodup_append.mp si.nd).1
        have hFlen : F.length < n := by
          have hsub : ∀ x ∈ e :: F, x < n := fun x hx => by
            rcases List.mem_cons.mp hx with z | z
            · rw [z]; exact heF
            · exact si.lt x (List.mem_append_left _ z)
          have hnd : (e :: F).Nodup := List.nodup_cons.mpr ⟨fun z => (List.nodup_append.mp si.nd).2.2 e z e he rfl, hFn⟩
          have := nodup_len n _ hnd hsub
          rw [List.length_cons] at this
          omega
        -- ready.remove(here); found.append(here)
        refine ⟨_, rfl, .inl ⟨rfl, _, .inl (.inl sh1.hr)⟩, _, rfl, rem_nat sh1.hr hRn he ?_⟩
        have sh2 := sh1.setR ad (R' := R.filter fun y => decide (y ≠ e))
        refine ⟨_, rfl, .inl ⟨rfl, _, .inl (.inl sh2.hf)⟩, _, rfl, f, _, _, rfl, rfl, sh2.hf, by rw [nats_len]; exact small_line (by omega), ?_⟩
        have ef : nats F ++ [V.int (e : Int)] = nats (F ++ [e]) := by simp [nats]
        rw [ef]
        have sh3 := sh2.setF ad (F' := F ++ [e])
        have sh3' : SHp H _ p r f ps (F ++ [e]) (R.filter fun y => decide (y ≠ e)) (remP acts F e 0) := sh3.ls_eq fun b _ => rem_zero acts F e b
        -- for index, activity in enumerate(activities)
        refine ⟨_, rfl, p0, xs, rfl, sh3.same.tup hs, ?_⟩
        refine for_it walk_enumT (fun i σ H' => ∃ R' y6 y7 y8, σ = [some (.int n), some (.ref p0), some (.ref r), some (.ref p), some (.ref f), some (.int e), y6, y7, y8] ∧ SHp H H' p r f ps (F ++ [e]) R' (remP acts F e i) ∧ SIn n acts F e i R')
          ⟨_, _, _, _, rfl, sh3', si.take he⟩ (fun i σ H' _ p => by obtain ⟨_, _, _, _, _, z, _⟩ := p; exact z.same.tup hs) ?_ ?_
        · rintro i x σ H4 H5 hi ⟨R', y6, y7, y8, rfl, sh4, sn⟩ ⟨T0, x1, x2, rfl, nT, rfl, e1, e2⟩
          cases e1
          have hi' : i < acts.length := by omega
          obtain ⟨qa, ea, ta⟩ := hat i _ (List.getElem?_eq_getElem hi')
          cases ea.symm.trans e2
          have sh5 := sh4.new (o := .tup [.int (i : Nat), .ref qa]) nT
          refine ⟨T0, _, rfl, .of upd_same, rfl, _, _, rfl, _, _, rfl, rfl, ?_⟩
          walk_at "n"
          have tq := sh5.same.tup ta
          refine ⟨_, rfl, qa, _, 0, _, rfl, rfl, tq, atI_nat (j := 0) rfl, _, rfl, rfl, _, rfl, ?_⟩
          have ec : decide (V.int ((acts[i].1 : Nat) : Int) = V.int (e : Int)) = decide (frA acts i = some e) := by
            simp only [frA, List.getElem?_eq_getElem hi', Option.map_some, V.int.injEq, Option.some.injEq]
            by_cases z : acts[i].1 = e
            · simp [z]
            · rw [decide_eq_false z]; exact decide_eq_false (by omega)
          rw [ec]
          by_cases hfr : frA acts i = some e
          · rw [decide_eq_true hfr]
            refine iteT ?_
            have hb : acts[i].2.1 < n := (hg.ev _ _ _ (List.getElem_mem hi')).2.1
            obtain ⟨l, el⟩ : ∃ l, ps[acts[i].2.1]? = some l := ⟨_, List.getElem?_eq_getElem (show acts[i].2.1 < ps.length by rw [cm.len]; exact hb)⟩
            have hl := sh5.hl _ l el
            have htb : toB acts acts[i].2.1 i = true := by simp [toB, List.getElem?_eq_getElem hi']
            refine ⟨_, rfl, _, rfl, qa, _, 1, _, rfl, rfl, tq, atI_nat (j := 1) rfl, p, ps.map V.ref, _, .ref l, rfl, rfl, .of sh5.hp, atI_nat (by rw [List.getElem?_map, el]; rfl), ?_⟩
            refine ⟨.inl ⟨rfl, _, .inl (.inl hl)⟩, _, rfl, rem_nat hl (rem_nodup _ _ _ _ _) (sn.mem hi' hfr htb) ?_⟩
            rw [← rem_drop hfr]
            have sh6 : SHp H _ p r f ps (F ++ [e]) R' (remP acts F e (i + 1)) := sh5.setL ad el (L := remP acts F e (i + 1) acts[i].2.1) rfl (fun b hb => by
              refine rem_same (.inl ?_)
              simp only [toB, List.getElem?_eq_getElem hi', Option.map_some, beq_eq_false_iff_ne, ne_eq, Option.some.injEq]
              exact fun z => hb z.symm)
            have hl6 := sh6.hl _ l el
            have tq6 := sh6.same.tup ta
            refine ⟨_, rfl, _, rfl, qa, _, 1, _, rfl, rfl, tq6, atI_nat (j := 1) rfl, p, ps.map V.ref, _, .ref l, rfl, rfl, .of sh6.hp, atI_nat (by rw [List.getElem?_map, el]; rfl), Nat.zero_le _, fun o2 no2 => ?_⟩
            refine eq_nil (.of (upd_at hl6 no2)) (.of upd_same) ⟨_, rfl, ?_⟩
            have sh7 := sh6.new (o := .lst []) no2
            cases hz : (remP acts F e (i + 1) acts[i].2.1).isEmpty with
            | true =>
              have hnil := List.isEmpty_iff.mp hz
              refine iteT ⟨_, rfl, .inl ⟨rfl, _, .inl (.inl sh7.hr)⟩, _, rfl, qa, _, 1, _, rfl, rfl, sh7.same.tup ta, atI_nat (j := 1) rfl, r, _, _, rfl, rfl, sh7.hr, ?_, ?_⟩
              · rw [nats_len]
                have := nodup_len n R' (List.nodup_append.mp sn.nd).2.1 fun x hx => sn.lt x (List.mem_append_right _ hx)
                exact small_line (by omega)
              · have er : nats R' ++ [V.int (acts[i].2.1 : Int)] = nats (R' ++ [acts[i].2.1]) := by simp [nats]
                rw [er]
                exact ⟨_, _, _, _, rfl, sh7.setR ad, sn.step_new hi' hfr htb hb hnil⟩
            | false =>
              refine iteF ⟨_, _, _, _, rfl, sh7, sn.step_keep hi' hfr htb fun z => ?_⟩
              rw [z] at hz; cases hz
          · rw [decide_eq_false hfr]
            refine iteF ⟨_, _, _, _, rfl, ?_, sn.step_no hfr⟩
            exact sh5.ls_eq fun b _ => rem_same (.inr hfr)
        · rintro σ H4 ⟨R', y6, y7, y8, rfl, sh4, sn⟩
          rw [hlen] at sh4 sn
          refine ⟨⟨F ++ [e], R', _, _, _, _, rfl, sh4.ls_eq fun b _ => (rem_end acts F e b).symm, SIn.close si he sn⟩, ?_⟩
          show n - _ < n - _
          rw [sh4.hf, sh.hf]
          simp only [nats_len, List.length_append, List.length_singleton]
          omega
    · obtain ⟨v, e1, h1, h2⟩ := c
      refine ⟨v, e1, h1, fun o no => ?_⟩
      obtain ⟨d, e, c1, c2, c3, c4, b, eb, c5⟩ := h2 o no
      exact ⟨d, e, c1, c2, c3, c4, b, eb, hm _ _ c5⟩
end
end A69
end

section
set_option maxRecDepth 100000
set_option maxHeartbeats 2000000
/-! R69f: readings: rings, plans, errors. -/
namespace A69
open PySem PySem.Spec PyProof.Rows L2 KX MP
local macro_rules | `(tactic| walk_at "n") => `(tactic| dsimp only [rtE, tRet, tAndV, tOrV, tNotV, tCB, tCons, tNil, tVar, tC, tOp, tUn, tChain, tTest, tB, tAnd, tOr, tNot, tIf, tIfS, tSeq, tAsg, tDrop, tNext, gName, tPar, tPar3, tTup, tLst, tCall, tBM, tBM0, tSl, tPart, tNoPart, gTup, gCons, gNil, gSub, iRng1, iRng2, iList, iTup, iEnumT, iRgV, tYes])
theorem sub_len : ∀ (l m : List Nat), l.Nodup → (∀ x ∈ l, x ∈ m) → l.length ≤ m.length
  | [], _, _, _ => Nat.zero_le _
  | a :: l, m, hn, h => by
    rw [List.nodup_cons] at hn
    have ha := h a List.mem_cons_self
    have := sub_len l (m.erase a) hn.2 fun x hx => by
      have hx' := h x (List.mem_cons_of_mem _ hx)
      have hne : x ≠ a := fun z => hn.1 (z ▸ hx)
      exact (List.mem_erase_of_ne hne).mpr hx'
    have h2 := List.length_erase_of_mem ha
    have h3 : 0 < m.length := List.length_pos_of_mem ha
    rw [List.length_cons]; omega
theorem Topo.ring {n : Nat} {acts : List Acty} {F : List Nat} (h : Topo n acts F) (hg : GoodA n acts) : (decide ((F.length : Int) < n) = false) ↔ ∃ r, Ranked acts r := by
  constructor
  · intro hd
    have hl : n ≤ F.length := by
      have := of_decide_eq_false hd
      omega
    have all : ∀ b, b < n → b ∈ F := fun b hb => by
      apply Classical.byContradiction
      intro hF
      have := nodup_len n (b :: F) (List.nodup_cons.mpr ⟨hF, h.nd⟩) fun x hx => by
        rcases List.mem_cons.mp hx with z | z
        · rw [z]; exact hb
        · exact h.lt x z
      rw [List.length_cons] at this
      omega
    refine ⟨fun e => F.idxOf e, fun a b d hm => ?_⟩
    have hb := all b (hg.ev _ _ _ hm).2.1
    have hbi : F.idxOf b < F.length := List.idxOf_lt_length_of_mem hb
    have e1 : F[F.idxOf b]? = some b := by rw [List.getElem?_eq_getElem hbi, List.getElem_idxOf hbi]
    have ht := h.ord _ b e1 a d hm
    obtain ⟨j, hj, e2⟩ := List.mem_iff_getElem.mp ht
    have hj' : j < F.idxOf b := by rw [List.length_take] at hj; omega
    have hjl : j < F.length := by omega
    rw [List.getElem_take] at e2
    have : F.idxOf a = j := by
      rw [← e2]
      exact h.nd.idxOf_getElem j hjl
    show F.idxOf a < F.idxOf b
    rw [this]; exact hj'
  · rintro ⟨r, hr⟩
    have all : ∀ k b, r b ≤ k → b < n → b ∈ F := by
      intro k
      induction k with
      | zero =>
        intro b hk hb
        apply Classical.byContradiction
        intro hF
        obtain ⟨a, d, hm, _⟩ := h.most b hb hF
        have := hr _ _ _ hm
        omega
      | succ k ih =>
        intro b hk hb
        apply Classical.byContradiction
        intro hF
        obtain ⟨a, d, hm, ha⟩ := h.most b hb hF
        have := hr _ _ _ hm
        exact ha (ih a (by omega) (hg.ev _ _ _ hm).1)
    have := sub_len (List.range n) F List.nodup_range fun x hx => all _ x (Nat.le_refl _) (List.mem_range.mp hx)
    rw [List.length_range] at this
    exact decide_eq_false (by omega)
theorem eA_inj {a b : Acty} (z : eA a = eA b) : a = b := by
  obtain ⟨a1, a2, a3⟩ := a
  obtain ⟨b1, b2, b3⟩ := b
  simp [eA] at z
  obtain ⟨z1, z2, z3⟩ := z
  simp only [Prod.mk.injEq]
  omega
theorem eAs_inj : ∀ {l m : List Acty}, l.map eA = m.map eA → l = m
  | [], [], _ => rfl
  | [], _ :: _, h => nomatch h
  | _ :: _, [], h => nomatch h
  | a :: l, b :: m, h => by
    injection h with h1 h2
    rw [eA_inj h1, eAs_inj h2]
section
variable {K : PySem.W.Frag} {mg : Str → Option Value} (T : TX K mg) {vs : List V} {H : Hp} {Q : VK} {E : XK}
theorem rd_has_ring (h : sp_has_ring T vs H Q E) : t_has_ring T (rtE Q) (start N_has_ring vs) H := by
  unfold t_has_ring; walk_at "n"
  obtain ⟨n, v, acts, rfl, hd, hg, q⟩ := h
  refine ⟨_, rfl, _, rfl, n, _, acts, rfl, hd, hg, fun H1 p F s1 np ep tp => ?_⟩
  refine ⟨p, _, rfl, .inl (.of ep), _, rfl, _, n, rfl, rfl, q H1 _ s1 ?_⟩
  rw [nats_len]
  exact tp.ring hg
/-! ### errors -/
theorem rd_init {C : Addr} {f : Str} {m : Str} (oC : OexC K C) (nf : PySem.W.findIn K (.ref C) f = some none) (h : sp_init C f K vs H Q E) :
    (tSeq (tDrop (tVeI K (tCons (tVar 0) (tCons (tC (.str m)) tNil)))) (tOst K f (tVar 0) (tVar 1))) (rtE Q) (start ["self", f] vs) H := by
  obtain ⟨a, v, rfl, ea, q⟩ := h
  refine ⟨_, rfl, a, C, [.str m], rfl, (by show 1 ≤ 1000; decide), oC, ea, ?_⟩
  exact ⟨_, rfl, _, rfl, a, C, rfl, oC, nf, .inl ⟨ea, fun dx hdx hne => q dx hdx hne⟩⟩
theorem raise_ {C : Addr} {f : Str} {v : V} {σ : L2.St} {te : TE} (h : Throws E H C f v) (hv : ∀ Q : VK, Q v H → te σ H Q) :
    tMkO C (sp_init C f K) [] (tCons te tNil) σ H (fun cls d H1 => E cls d H1) := by
  refine hv _ ?_
  refine ⟨(by show 1 ≤ 1000; decide), fun a na => ⟨a, v, rfl, upd_same, fun dx ndx hne => ⟨rfl, dx, _, upd_same, ?_, ?_, h _ dx ?_ ?_ upd_same⟩⟩⟩
  · rw [upd_ne hne, upd_same]
  · rw [upd_ne hne] at ndx; exact ndx
  · intro b o e
    have hb : b ≠ dx := fun z => by
      rw [upd_ne hne] at ndx
      rw [z, ndx] at e; cases e
    have hba : b ≠ a := ne_of_none e na
    rw [upd_ne hb, del_ne hba, upd_ne hba, upd_ne hb, upd_ne hba]
    exact e
  · rw [upd_ne hne] at ndx; exact ndx
/-! ### plans -/
theorem IsPlan.inv {d : PyData} (h : IsPlan d) : ∃ n acts, d = .tuple [.int (n : Nat), eAs acts] ∧ Valid n acts := h
theorem acts_of {n : Nat} : ∀ {ds : List PyData}, ds.all (isAct n) = true → ∃ acts : List Acty, ds = acts.map eA ∧ ∀ a b d, (a, b, d) ∈ acts → a < n ∧ b < n ∧ a ≠ b ∧ 0 ≤ d
  | [], _ => ⟨[], rfl, fun _ _ _ h => nomatch h⟩
  | d :: ds, h => by
    rw [List.all_cons, Bool.and_eq_true] at h
    obtain ⟨acts, e, hg⟩ := acts_of h.2
    obtain ⟨a, b, c, rfl, h1, h2, h3, h4, h5, h6⟩ := isAct_tup h.1
    refine ⟨(a.toNat, b.toNat, c) :: acts, ?_, fun x y z hm => ?_⟩
    · rw [List.map_cons, ← e]
      simp only [eA]
      rw [Int.toNat_of_nonneg h1, Int.toNat_of_nonneg h3]
    · rcases List.mem_cons.mp hm with q | q
      · cases q; omega
      · exact hg x y z q
theorem acts_all {n : Nat} {acts : List Acty} (hg : ∀ a b d, (a, b, d) ∈ acts → a < n ∧ b < n ∧ a ≠ b ∧ 0 ≤ d) : (acts.map eA).all (isAct n) = true := by
  rw [List.all_map, List.all_eq_true]
  rintro ⟨a, b, d⟩ hm
  obtain ⟨h1, h2, h3, h4⟩ := hg a b d hm
  simp only [Function.comp, eA, isAct, isIndex, isCount, Bool.and_eq_true, decide_eq_true_eq]
  omega
theorem rd_is_plan (h : sp_is_plan T vs H Q E) : t_is_plan T (rtE Q) (start N_is_plan vs) H := by
  unfold t_is_plan; walk_at "n"
  obtain ⟨v, d, rfl, hd, q⟩ := h
  refine ⟨_, rfl, v, d, 2, rfl, hd, _, rfl, ?_⟩
  by_cases h1 : ¬ isTupN (2 : Nat) d = true
  · have h1' : isTupN 2 d = false := by simpa using h1
    rw [h1']
    refine iteT (iteT (q H false (Same.refl _) ⟨(fun z => nomatch z), fun hp => ?_⟩))
    obtain ⟨n, acts, rfl, _⟩ := hp.inv
    exact absurd rfl h1
  have h1 := Classical.not_not.mp h1
  have h1' : isTupN 2 d = true := h1
  rw [h1']
  refine iteF ?_
  obtain ⟨ds, rfl, hl⟩ := isTupN_iff.mp h1
  obtain ⟨x, y, rfl⟩ : ∃ x y, ds = [x, y] := match ds, hl with | [x, y], _ => ⟨x, y, rfl⟩
  obtain ⟨p, xs, rfl, hs, ha⟩ := hd.tup_inv
  obtain ⟨vx, ex, dx⟩ := ha.get (i := 0) (d := x) rfl
  obtain ⟨vy, ey, dy⟩ := ha.get (i := 1) (d := y) rfl
  refine ⟨_, rfl, .inr (.inl ⟨p, xs, 0, vx, rfl, rfl, hs, atI_nat ex, vx, x, 1, 20, rfl, dx, _, rfl, ?_⟩)⟩
  by_cases h2 : ¬ isWithin 1 20 x = true
  · have h2' : isWithin 1 20 x = false := by simpa using h2
    rw [h2']
    refine iteT (q H false (Same.refl _) ⟨(fun z => nomatch z), fun hp => ?_⟩)
    obtain ⟨n, acts, e, hv⟩ := hp.inv
    cases e
    have := hv.n1
    have := hv.good.n20
    simp [isWithin] at h2'
    omega
  have h2 := Classical.not_not.mp h2
  rw [h2]
  refine iteF ?_
  obtain ⟨m, rfl, hm1, hm2⟩ : ∃ m : Int, x = .int m ∧ 1 ≤ m ∧ m ≤ 20 := by
    cases x <;> simp [isWithin] at h2
    exact ⟨_, rfl, h2⟩
  obtain ⟨n, rfl⟩ : ∃ n : Nat, m = n := ⟨m.toNat, by omega⟩
  cases dx.int_inv
  -- many, activities = value
  have exs : xs = [.int n, vy] := by
    have := ha.length
    match xs, this with
    | [a, b], _ =>
      simp at ex ey
      rw [ex, ey]
  rw [exs] at hs
  refine ⟨_, rfl, p, _, rfl, hs, rfl, _, _, rfl, _, _, rfl, rfl, ?_⟩
  refine ⟨vy, rfl, isi_tuple dy ⟨_, rfl, ?_⟩⟩
  by_cases h3 : ¬ isTup y = true
  · have h3' : isTup y = false := by simpa using h3
    rw [h3']
    refine iteT (iteT (q H false (Same.refl _) ⟨(fun z => nomatch z), fun hp => ?_⟩))
    obtain ⟨n, acts, e, hv⟩ := hp.inv
    cases e
    exact absurd rfl h3
  have h3 := Classical.not_not.mp h3
  rw [h3]
  refine iteF ?_
  obtain ⟨ds, rfl⟩ := (isTup_iff y).mp h3
  refine ⟨_, rfl, _, rfl, vy, ds, n, rfl, dy, fun H1 s1 => ⟨_, rfl, ?_⟩⟩
  by_cases h4 : ¬ (decide (ds.length ≤ 120) && ds.all (isAct n)) = true
  · have h4' : (decide (ds.length ≤ 120) && ds.all (isAct n)) = false := by simpa using h4
    rw [h4']
    refine iteT (iteT (q H1 false s1 ⟨(fun z => nomatch z), fun hp => ?_⟩))
    obtain ⟨n', acts, e, hv⟩ := hp.inv
    have e1 : (n : Int) = n' := by injection e with e; injection e with e _; injection e
    have e2 : ds = acts.map eA := by injection e with e; injection e with _ e; injection e with e _; injection e
    have e3 : n = n' := by omega
    subst e3
    refine absurd ?_ h4
    rw [e2, acts_all hv.good.ev, Bool.and_true, List.length_map]
    exact decide_eq_true hv.good.most
  have h4 := Classical.not_not.mp h4
  rw [h4]
  refine iteF ?_
  rw [Bool.and_eq_true, decide_eq_true_eq] at h4
  obtain ⟨acts, rfl, hev⟩ := acts_of h4.2
  rw [List.length_map] at h4
  have hg : GoodA n acts := ⟨by omega, h4.1, hev⟩
  have dy1 : Dp K H1 vy (eAs acts) := dy.same s1
  refine ⟨_, rfl, vy, acts, rfl, dy1, hg.most, fun H2 s2 => ⟨_, rfl, ?_⟩⟩
  by_cases h5 : ¬ inOrder acts = true
  · have h5' : inOrder acts = false := by simpa using h5
    rw [h5']
    refine iteT (q H2 false (s1.trans s2) ⟨(fun z => nomatch z), fun hp => ?_⟩)
    obtain ⟨n', acts', e, hv⟩ := hp.inv
    have e2 : acts.map eA = acts'.map eA := by injection e with e; injection e with _ e; injection e with e _; injection e
    have : acts = acts' := eAs_inj e2
    rw [this] at h5
    exact absurd hv.ord h5
  have h5 := Classical.not_not.mp h5
  rw [h5]
  refine iteF ⟨_, rfl, _, rfl, n, vy, acts, rfl, dy1.same s2, hg, fun H3 b s3 hb => ⟨_, rfl, q H3 _ ((s1.trans s2).trans s3) ?_⟩⟩
  constructor
  · intro z
    exact ⟨n, acts, rfl, by omega, hg, h5, hb.mp (by simpa using z)⟩
  · intro hp
    obtain ⟨n', acts', e, hv⟩ := hp.inv
    have e2 : acts.map eA = acts'.map eA := by injection e with e; injection e with _ e; injection e with e _; injection e
    have e3 : acts = acts' := eAs_inj e2
    subst e3
    rw [hb.mpr hv.rank]
    rfl
theorem rd_check_plan (h : sp_check_plan T vs H Q E) : t_check_plan T E (rtE Q) (start N_check_plan vs) H := by
  unfold t_check_plan; walk_at "n"
  obtain ⟨v, d, rfl, hd, q1, q2⟩ := h
  refine ⟨_, rfl, v, d, rfl, hd, fun H1 b s1 hb => ⟨_, rfl, ?_⟩⟩
  cases b with
  | true => exact iteF (q1 (hb.mp rfl) H1 s1)
  | false =>
    refine iteT (raise_ (f := "given") (v := v) ?_ fun Q q => ⟨_, rfl, q⟩)
    have hn : ¬ IsPlan d := fun z => by have := hb.mpr z; cases this
    exact fun H2 e s2 ne he => q2 hn H2 e (s1.trans s2) (s1.free ne) he
end
end A69
end

section
set_option maxRecDepth 100000
set_option maxHeartbeats 2000000
/-! R69g: readings: plans of lists, the search. -/
namespace A69
open PySem PySem.Spec PyProof.Rows L2 KX MP
local macro_rules | `(tactic| walk_at "n") => `(tactic| dsimp only [rtE, tRet, tAndV, tOrV, tNotV, tCB, tCons, tNil, tVar, tC, tOp, tUn, tChain, tTest, tB, tAnd, tOr, tNot, tIf, tIfS, tSeq, tAsg, tDrop, tNext, gName, tPar, tPar3, tTup, tLst, tCall, tBM, tBM0, tSl, tPart, tNoPart, gTup, gCons, gNil, gSub, iRng1, iRng2, iList, iTup, iEnumT, iRgV, tYes])
theorem tup3_of {K : PySem.W.Frag} {H : Hp} : ∀ {xs : List V} {acts : List Acty}, DpAll K H xs (acts.map eA) → Paired (Tup3 K H) xs (acts.map toL)
  | _, [], h => by cases h; exact .nil
  | _, a :: acts, h => by
    cases h with
    | cons h1 h2 =>
      obtain ⟨q, ys, rfl, hq, hy⟩ := h1.tup_inv
      have : ys = (toL a).map V.int := DpAll.ints_inv (ns := toL a) hy
      rw [this] at hq
      exact .cons ⟨q, rfl, hq⟩ (tup3_of h2)
theorem of_tup3 {K : PySem.W.Frag} {H : Hp} : ∀ {xs : List V} {acts : List Acty}, Paired (Tup3 K H) xs (acts.map toL) → DpAll K H xs (acts.map eA)
  | _, [], h => by cases h; exact .nil
  | _, a :: acts, h => by
    cases h with
    | cons h1 h2 =>
      obtain ⟨t, rfl, ht⟩ := h1
      exact .cons (.tup ht (DpAll.ints (ns := toL a))) (of_tup3 h2)
theorem flat_eA (a : Acty) : flatD (eA a) = true := rfl
section
variable {K : PySem.W.Frag} {mg : Str → Option Value} (T : TX K mg) {vs : List V} {H : Hp} {Q : VK} {E : XK}
theorem rd_plan_of (h : sp_plan_of T vs H Q E) : t_plan_of T (rtE Q) (start N_plan_of vs) H := by
  unfold t_plan_of; walk_at "n"
  obtain ⟨n, a, xs, acts, rfl, hs, hd, hl, q⟩ := h
  refine ⟨_, rfl, _, rfl, a, xs, acts.map toL, rfl, hs, tup3_of hd, fun ns hm => ?_, fun ys p np hp => ?_⟩
  · obtain ⟨b, _, rfl⟩ := List.mem_map.mp hm
    exact List.cons_ne_nil _ _
  · have em : (acts.map toL).mergeSort leL = (acts.mergeSort leA).map toL := (List.map_mergeSort (r := leA) (s := leL) (f := toL) (l := acts) (fun a _ b _ => rfl)).symm
    rw [em] at hp
    have hy := of_tup3 hp
    have s1 : Same H (upd H p (.lst ys)) := same_upd np
    refine ⟨p, ys, rfl, .inl ⟨.of upd_same, fun t nt => ⟨by show 2 ≤ sizeLine; decide, fun u nu => ?_⟩⟩⟩
    have s2 := s1.upd (o := .tup ys) nt
    have s3 := s2.upd (o := .tup [.int n, .ref t]) nu
    refine q _ _ s3 (.tup (.of upd_same) (.cons (.int _) (.cons (.tup (.of (upd_at upd_same nu)) ?_) .nil)))
    exact hy.same s3
end
/-! ### the search: what holds -/
structure Srch (acts : List Acty) (n one : Nat) (D : List Nat) (os : List (Option Int)) : Prop where
  len : os.length = n
  done : ∀ b, b < n → b ∈ D → ∀ o, os[b]? = some o → IsT acts one b o
  rest : ∀ b, b < n → b ∉ D → os[b]? = some (if b = one then some 0 else none)
/-- an item in the making: the first j of what comes to it are looked at -/
structure Part (acts : List Acty) (one e j : Nat) (o : Option Int) : Prop where
  self : one = e → ∃ m, o = some m ∧ 0 ≤ m
  most : ∀ k c d, k ∈ (comingL acts e).take j → acts[k]? = some (c, e, d) → ∀ l, Way acts one c l → ∃ m, o = some m ∧ l + d ≤ m
  way : ∀ m, o = some m → Way acts one e m
theorem mem_coming {acts : List Acty} {e k : Nat} : k ∈ comingL acts e ↔ ∃ c d, acts[k]? = some (c, e, d) := by
  simp only [comingL, List.mem_filter, List.mem_range, beq_iff_eq]
  constructor
  · rintro ⟨h1, h2⟩
    rw [List.getElem?_eq_getElem h1] at h2 ⊢
    simp only [Option.map_some, Option.some.injEq] at h2
    exact ⟨acts[k].1, acts[k].2.2, by rw [← h2]⟩
  · rintro ⟨c, d, h⟩
    exact ⟨(List.getElem?_eq_some_iff.mp h).1, by rw [h]; rfl⟩
theorem Part.full {acts : List Acty} {one e : Nat} {o : Option Int} (h : Part acts one e (comingL acts e).length o) : IsT acts one e o := by
  refine ⟨fun l w => ?_, h.way⟩
  rcases w.last with ⟨z, rfl⟩ | ⟨c, l', d, w', hm, rfl⟩
  · exact h.self z
  · obtain ⟨k, hk⟩ := List.mem_iff_getElem?.mp hm
    exact h.most k c d (by rw [List.take_length]; exact mem_coming.mpr ⟨c, d, hk⟩) hk l' w'
theorem Part.start {acts : List Acty} {one e : Nat} : Part acts one e 0 (if e = one then some 0 else none) := by
  refine ⟨fun z => ?_, fun k c d h => absurd h (by simp), fun m e1 => ?_⟩
  · rw [if_pos z.symm]; exact ⟨0, rfl, Int.le_refl _⟩
  · by_cases z : e = one
    · subst z
      rw [if_pos rfl] at e1
      cases e1
      exact .nil
    · rw [if_neg z] at e1; cases e1
theorem Part.step {acts : List Acty} {one e j k c : Nat} {d : Int} {o oc : Option Int} (h : Part acts one e j o) (hk : (comingL acts e)[j]? = some k) (ha : acts[k]? = some (c, e, d)) (hc : IsT acts one c oc) :
    Part acts one e (j + 1) (if laterO (plusO oc (some d)) o = true then plusO oc (some d) else o) := by
  have ht : (comingL acts e).take (j + 1) = (comingL acts e).take j ++ [k] := by
    rw [List.take_add_one, hk]; rfl
  have hx : (c, e, d) ∈ acts := List.mem_of_getElem? ha
  cases oc with
  | none =>
    have e0 : laterO (plusO none (some d)) o = false := by cases o <;> rfl
    rw [e0]
    refine ⟨h.self, fun k' c' d' hm hk' l w => ?_, h.way⟩
    rw [ht] at hm
    rcases List.mem_append.mp hm with hm | hm
    · exact h.most k' c' d' hm hk' l w
    · have : k' = k := by simpa using hm
      subst this
      rw [ha] at hk'; cases hk'
      obtain ⟨m, z, _⟩ := hc.most l w
      cases z
  | some mc =>
    have new : Way acts one e (mc + d) := .snoc (hc.way mc rfl) hx
    have bound : ∀ l, Way acts one c l → l ≤ mc := fun l w => by
      obtain ⟨m, z, hle⟩ := hc.most l w
      cases z; exact hle
    cases o with
    | none =>
      have e0 : laterO (plusO (some mc) (some d)) none = true := rfl
      rw [e0]
      refine ⟨fun z => ?_, fun k' c' d' hm hk' l w => ?_, fun m z => ?_⟩
      · obtain ⟨m, z', _⟩ := h.self z; cases z'
      · rw [ht] at hm
        rcases List.mem_append.mp hm with hm | hm
        · obtain ⟨m, z, _⟩ := h.most k' c' d' hm hk' l w; cases z
        · have : k' = k := by simpa using hm
          subst this
          rw [ha] at hk'; cases hk'
          have := bound l w
          exact ⟨mc + d, rfl, by omega⟩
      · have : m = mc + d := by
          have z' : some (mc + d) = some m := z
          exact (Option.some.inj z').symm
        rw [this]; exact new
    | some mo =>
      have e0 : laterO (plusO (some mc) (some d)) (some mo) = decide (mo < mc + d) := rfl
      rw [e0]
      by_cases hlt : mo < mc + d
      · rw [decide_eq_true hlt, if_pos rfl]
        refine ⟨fun z => ?_, fun k' c' d' hm hk' l w => ?_, fun m z => ?_⟩
        · obtain ⟨m, z', hle⟩ := h.self z
          cases z'
          exact ⟨mc + d, rfl, by omega⟩
        · refine ⟨mc + d, rfl, ?_⟩
          rw [ht] at hm
          rcases List.mem_append.mp hm with hm | hm
          · obtain ⟨m, z, hle⟩ := h.most k' c' d' hm hk' l w
            cases z; omega
          · have : k' = k := by simpa using hm
            subst this
            rw [ha] at hk'; cases hk'
            have := bound l w
            omega
        · have : m = mc + d := by
            have z' : some (mc + d) = some m := z
            exact (Option.some.inj z').symm
          rw [this]; exact new
      · rw [decide_eq_false hlt, if_neg Bool.false_ne_true]
        refine ⟨h.self, fun k' c' d' hm hk' l w => ?_, h.way⟩
        rw [ht] at hm
        rcases List.mem_append.mp hm with hm | hm
        · exact h.most k' c' d' hm hk' l w
        · have : k' = k := by simpa using hm
          subst this
          rw [ha] at hk'; cases hk'
          have := bound l w
          exact ⟨mo, rfl, by omega⟩
end A69
end

section
set_option maxRecDepth 100000
set_option maxHeartbeats 2000000
/-! R69h: the reading of the search. -/
namespace A69
open PySem PySem.Spec PyProof.Rows L2 KX MP
local macro_rules | `(tactic| walk_at "n") => `(tactic| dsimp only [rtE, tRet, tAndV, tOrV, tNotV, tCB, tCons, tNil, tVar, tC, tOp, tUn, tChain, tTest, tB, tAnd, tOr, tNot, tIf, tIfS, tSeq, tAsg, tDrop, tNext, gName, tPar, tPar3, tTup, tLst, tCall, tBM, tBM0, tSl, tPart, tNoPart, gTup, gCons, gNil, gSub, iRng1, iRng2, iList, iTup, iEnumT, iRgV, tYes])
structure XAd (H : Hp) (g fo ca p : Addr) (ps : List Addr) : Prop where
  fr : H fo = none ∧ H ca = none
  ne : fo ≠ ca ∧ g ≠ fo ∧ g ≠ ca ∧ p ≠ fo ∧ p ≠ ca
  out : fo ∉ ps ∧ ca ∉ ps
structure XHp (acts : List Acty) (n : Nat) (H H' : Hp) (g fo ca p : Addr) (ps : List Addr) (F : List Nat) (os : List (Option Int)) : Prop where
  same : Same H H'
  hg : H' g = some (.lst (nats F))
  hfo : H' fo = some (.lst (os.map vO))
  hca : ∃ cs : List V, H' ca = some (.lst cs) ∧ cs.length = n
  hp : H' p = some (.lst (ps.map V.ref))
  hl : ∀ b q, ps[b]? = some q → H' q = some (.lst (nats (comingL acts b)))
section
variable {acts : List Acty} {n : Nat} {H H' : Hp} {g fo ca p : Addr} {ps : List Addr} {F : List Nat} {os : List (Option Int)}
theorem XHp.new {T : Addr} {o : HO} (h : XHp acts n H H' g fo ca p ps F os) (hT : H' T = none) : XHp acts n H (upd H' T o) g fo ca p ps F os := by
  obtain ⟨cs, e, l⟩ := h.hca
  exact ⟨h.same.upd hT, upd_at h.hg hT, upd_at h.hfo hT, ⟨cs, upd_at e hT, l⟩, upd_at h.hp hT, fun b q e => upd_at (h.hl b q e) hT⟩
theorem XHp.setF {os' : List (Option Int)} (a : XAd H g fo ca p ps) (h : XHp acts n H H' g fo ca p ps F os) : XHp acts n H (upd H' fo (.lst (os'.map vO))) g fo ca p ps F os' := by
  obtain ⟨cs, e, l⟩ := h.hca
  exact ⟨h.same.set a.fr.1, by rw [upd_ne a.ne.2.1]; exact h.hg, upd_same, ⟨cs, by rw [upd_ne (Ne.symm a.ne.1)]; exact e, l⟩, by rw [upd_ne a.ne.2.2.2.1]; exact h.hp, fun b q e => by rw [upd_ne (ne_mem e a.out.1)]; exact h.hl b q e⟩
theorem XHp.setC {cs : List V} (a : XAd H g fo ca p ps) (h : XHp acts n H H' g fo ca p ps F os) (hc : cs.length = n) : XHp acts n H (upd H' ca (.lst cs)) g fo ca p ps F os :=
  ⟨h.same.set a.fr.2, by rw [upd_ne a.ne.2.2.1]; exact h.hg, by rw [upd_ne a.ne.1]; exact h.hfo, ⟨cs, upd_same, hc⟩, by rw [upd_ne a.ne.2.2.2.2]; exact h.hp, fun b q e => by rw [upd_ne (ne_mem e a.out.2)]; exact h.hl b q e⟩
end
theorem ixN_nat {n j : Nat} (h : j < n) : ixN n (j : Int) = some j := by
  unfold ixN
  rw [if_pos (by omega), if_pos (by omega)]; simp
theorem rep_flat {α : Type} (x : α) : ∀ n : Nat, (List.replicate n [x]).flatten = List.replicate n x
  | 0 => rfl
  | n + 1 => by rw [List.replicate_succ, List.flatten_cons, rep_flat x n]; rfl
theorem Srch.start {acts : List Acty} {n one : Nat} (h1 : one < n) : Srch acts n one [] ((List.replicate n (none : Option Int)).set one (some 0)) := by
  refine ⟨by simp, fun b _ h => absurd h (by simp), fun b hb _ => ?_⟩
  by_cases z : b = one
  · subst z
    rw [List.getElem?_set_self (by simpa using hb), if_pos rfl]
  · rw [List.getElem?_set_ne (Ne.symm z), if_neg z]
    simp [hb]
theorem Srch.next {acts : List Acty} {n one e i : Nat} {F : List Nat} {os : List (Option Int)} {o : Option Int} (h : Srch acts n one (F.take i) os) (he : F[i]? = some e) (hen : e < n) (ho : IsT acts one e o) : Srch acts n one (F.take (i + 1)) (os.set e o) := by
  have ht : F.take (i + 1) = F.take i ++ [e] := by rw [List.take_add_one, he]; rfl
  refine ⟨by rw [List.length_set]; exact h.len, fun b hb hm o' e' => ?_, fun b hb hm => ?_⟩
  · by_cases z : b = e
    · subst z
      rw [List.getElem?_set_self (by rw [h.len]; exact hb)] at e'
      cases e'
      exact ho
    · rw [List.getElem?_set_ne (Ne.symm z)] at e'
      rw [ht] at hm
      rcases List.mem_append.mp hm with q | q
      · exact h.done b hb q o' e'
      · exact absurd (by simpa using q) z
  · rw [ht] at hm
    have z : b ≠ e := fun z => hm (by rw [z]; simp)
    rw [List.getElem?_set_ne (Ne.symm z)]
    exact h.rest b hb fun q => hm (List.mem_append_left _ q)
section
variable {K : PySem.W.Frag} {mg : Str → Option Value} (T : TX K mg) {vs : List V} {H : Hp} {Q : VK} {E : XK}
theorem rd_search (h : sp_search T vs H Q E) : t_search T (rtE Q) (start N_search vs) H := by
  unfold t_search; walk_at "n"
  obtain ⟨n, v, acts, one, rfl, hd, hg, hr, hone, q⟩ := h
  obtain ⟨p0, xs, rfl, hs, hlen, hat⟩ := eAs_get hd
  have h20 := hg.n20
  have h120 := hg.most
  have sz : ([V.non].length * ((n : Int)).toNat) ≤ sizeLine := by
    have : 100 ≤ sizeLine := by decide
    show 1 * _ ≤ _
    omega
  have en : ((n : Int)).toNat = n := by omega
  refine ⟨by show 1 ≤ sizeLine; decide, fun o1 n1 => ⟨_, rfl, o1, n, [.non], rfl, rfl, upd_same, by omega, by omega, sz, fun fo nfo => ?_⟩⟩
  refine ⟨by show 1 ≤ sizeLine; decide, fun o2 n2 => ⟨_, rfl, o2, n, [.non], rfl, rfl, upd_same, by omega, by omega, sz, fun ca nca => ?_⟩⟩
  have erep : (List.replicate ((n : Int)).toNat [V.non]).flatten = (List.replicate n (none : Option Int)).map vO := by rw [en, rep_flat, List.map_replicate]; rfl
  rw [erep] at nca n2 ⊢
  generalize hH1 : upd H o1 (.lst [V.non]) = H1 at *
  have s1 : Same H H1 := by rw [← hH1]; exact same_upd n1
  generalize hH2 : upd H1 fo (.lst ((List.replicate n (none : Option Int)).map vO)) = H2 at *
  have s2 : Same H H2 := by rw [← hH2]; exact s1.upd nfo
  have f2 : H2 fo = some (.lst ((List.replicate n (none : Option Int)).map vO)) := by rw [← hH2]; exact upd_same
  generalize hH3 : upd H2 o2 (.lst [V.non]) = H3 at *
  have s3 : Same H H3 := by rw [← hH3]; exact s2.upd n2
  have f3 : H3 fo = some (.lst ((List.replicate n (none : Option Int)).map vO)) := by rw [← hH3]; exact upd_at f2 n2
  generalize hH4 : upd H3 ca (.lst ((List.replicate n (none : Option Int)).map vO)) = H4 at *
  have s4 : Same H H4 := by rw [← hH4]; exact s3.upd nca
  have f4 : H4 fo = some (.lst ((List.replicate n (none : Option Int)).map vO)) := by rw [← hH4]; exact upd_at f3 nca
  have c4 : H4 ca = some (.lst ((List.replicate n (none : Option Int)).map vO)) := by rw [← hH4]; exact upd_same
  have hfc : fo ≠ ca := fun z => by rw [z, nca] at f3; cases f3
  have frfo : H fo = none := s1.free nfo
  have frca : H ca = none := s3.free nca
  refine ⟨_, rfl, _, rfl, n, _, acts, rfl, hd.same s4, hg, fun H5 p ps s5 cm => ⟨_, _, _, rfl, ?_⟩⟩
  have f5 := s5 _ _ f4
  have c5 := s5 _ _ c4
  have hpf : p ≠ fo := fun z => by have := cm.new; rw [z, f4] at this; cases this
  have hpc : p ≠ ca := fun z => by have := cm.new; rw [z, c4] at this; cases this
  have ofo : fo ∉ ps := fun z => by have := (cm.fresh _ z).1; rw [f4] at this; cases this
  have oca : ca ∉ ps := fun z => by have := (cm.fresh _ z).1; rw [c4] at this; cases this
  -- found[one] = 0
  refine ⟨_, rfl, _, rfl, fo, _, _, one, rfl, rfl, f5, ixN_nat (by simpa using hone), ?_⟩
  have eset : ((List.replicate n (none : Option Int)).map vO).set one (V.int 0) = ((List.replicate n (none : Option Int)).set one (some 0)).map vO := by rw [List.map_set]; rfl
  rw [eset]
  generalize hos : (List.replicate n (none : Option Int)).set one (some 0) = os0 at *
  have st0 : Srch acts n one [] os0 := by rw [← hos]; exact Srch.start hone
  generalize hH6 : upd H5 fo (.lst (os0.map vO)) = H6 at *
  have s6 : Same H H6 := by rw [← hH6]; exact (s4.trans s5).set frfo
  have f6 : H6 fo = some (.lst (os0.map vO)) := by rw [← hH6]; exact upd_same
  have c6 : H6 ca = some (.lst ((List.replicate n (none : Option Int)).map vO)) := by rw [← hH6, upd_ne (Ne.symm hfc)]; exact c5
  have p6 : H6 p = some (.lst (ps.map V.ref)) := by rw [← hH6, upd_ne hpf]; exact cm.at_
  have l6 : ∀ b q, ps[b]? = some q → H6 q = some (.lst (nats (comingL acts b))) := fun b q e => by rw [← hH6, upd_ne (ne_mem e ofo)]; exact cm.lists b q e
  -- for event in sorted_events(..)
  refine ⟨_, rfl, _, rfl, n, _, acts, rfl, hd.same s6, hg, fun H7 g F s7 ng eg tp => ⟨g, rfl, ⟨_, .of eg⟩, ?_⟩⟩
  have hgf : g ≠ fo := fun z => by rw [z, f6] at ng; cases ng
  have hgc : g ≠ ca := fun z => by rw [z, c6] at ng; cases ng
  have ad : XAd H g fo ca p ps := ⟨⟨frfo, frca⟩, ⟨hfc, hgf, hgc, hpf, hpc⟩, ⟨ofo, oca⟩⟩
  have x7 : XHp acts n H H7 g fo ca p ps F os0 := ⟨s6.trans s7, eg, s7 _ _ f6, ⟨_, s7 _ _ c6, by simp⟩, s7 _ _ p6, fun b q e => s7 _ _ (l6 b q e)⟩
  refine for_it (walk_list (xs := nats F)) (fun i σ H' => ∃ os y3 y7 y8, σ = [some (.int n), some (.ref p0), some (.int one), y3, some (.ref fo), some (.ref ca), some (.ref p), y7, y8] ∧ XHp acts n H H' g fo ca p ps F os ∧ Srch acts n one (F.take i) os)
    ⟨os0, none, none, none, rfl, x7, st0⟩ (fun i σ H' _ p => by obtain ⟨_, _, _, _, _, z, _⟩ := p; exact .of z.hg) ?_ ?_
  · rintro i x σ H8 H9 hi ⟨os, y3, y7, y8, rfl, x8, sr⟩ ⟨rfl, ex⟩
    rw [nats_len] at hi
    obtain ⟨e, he⟩ : ∃ e, F[i]? = some e := ⟨_, List.getElem?_eq_getElem hi⟩
    cases (nats_get he).symm.trans ex
    have hen : e < n := tp.lt e (List.mem_of_getElem? he)
    obtain ⟨l, el⟩ : ∃ l, ps[e]? = some l := ⟨_, List.getElem?_eq_getElem (show e < ps.length by rw [cm.len]; exact hen)⟩
    have enot : e ∉ F.take i := fun z => by
      obtain ⟨j, hj, e2⟩ := List.mem_iff_getElem.mp z
      rw [List.getElem_take] at e2
      have hj' : j < i := by rw [List.length_take] at hj; omega
      obtain ⟨hi2, e3⟩ := List.getElem?_eq_some_iff.mp he
      have := (List.getElem_inj tp.nd).mp (e2.trans e3.symm)
      omega
    walk_at "n"
    refine ⟨_, rfl, _, rfl, p, _, _, .ref l, rfl, rfl, .of x8.hp, atI_nat (by rw [List.getElem?_map, el]; rfl), l, rfl, ⟨_, .of (x8.hl e l el)⟩, ?_⟩
    have ose : os[e]? = some (if e = one then some 0 else none) := sr.rest e hen enot
    have os_e : os.set e (if e = one then some 0 else none) = os := by
      obtain ⟨h1, h2⟩ := List.getElem?_eq_some_iff.mp ose
      rw [← h2, List.set_getElem_self]
    refine for_it (walk_list (xs := nats (comingL acts e))) (fun j σ H' => ∃ o y7 y8, σ = [some (.int n), some (.ref p0), some (.int one), some (.int e), some (.ref fo), some (.ref ca), some (.ref p), y7, y8] ∧ XHp acts n H H' g fo ca p ps F (os.set e o) ∧ Part acts one e j o)
      ⟨_, y7, y8, rfl, by rw [os_e]; exact x8, Part.start⟩ (fun i σ H' _ p => by obtain ⟨_, _, _, _, z, _⟩ := p; exact .of (z.hl e l el)) ?_ ?_
    · rintro j x σ H9 H10 hj ⟨o, y7, y8, rfl, x9, pt⟩ ⟨rfl, ex⟩
      rw [nats_len] at hj
      obtain ⟨k, hk⟩ : ∃ k, (comingL acts e)[j]? = some k := ⟨_, List.getElem?_eq_getElem hj⟩
      cases (nats_get hk).symm.trans ex
      obtain ⟨c, d, hc⟩ := mem_coming.mp (List.mem_of_getElem? hk)
      obtain ⟨qa, ea, ta⟩ := hat k _ hc
      have hm : (c, e, d) ∈ acts := List.mem_of_getElem? hc
      obtain ⟨hcn, _, hce, _⟩ := hg.ev _ _ _ hm
      have hcF := tp.ord i e he c d hm
      obtain ⟨oc, hoc⟩ : ∃ oc, os[c]? = some oc := ⟨_, List.getElem?_eq_getElem (show c < os.length by rw [sr.len]; exact hcn)⟩
      have ic := sr.done c hcn hcF oc hoc
      have hoc' : (os.set e o)[c]? = some oc := by rw [List.getElem?_set_ne (Ne.symm hce)]; exact hoc
      have hoe : (os.set e o)[e]? = some o := List.getElem?_set_self (by rw [sr.len]; exact hen)
      have tq := x9.same.tup ta
      have tx := x9.same.tup hs
      walk_at "n"
      refine ⟨_, rfl, _, rfl, _, rfl, p0, xs, _, .ref qa, rfl, rfl, tx, atI_nat ea, qa, _, 0, _, rfl, rfl, tq, atI_nat (j := 0) rfl, fo, _, _, vO oc, rfl, rfl, .of x9.hfo, atI_nat (by rw [List.getElem?_map, hoc']; rfl), ?_⟩
      refine ⟨_, rfl, _, rfl, p0, xs, _, .ref qa, rfl, rfl, tx, atI_nat ea, qa, _, 2, _, rfl, rfl, tq, atI_nat (j := 2) rfl, oc, some d, rfl, ?_⟩
      refine ⟨_, rfl, _, rfl, _, rfl, fo, _, _, vO o, rfl, rfl, .of x9.hfo, atI_nat (by rw [List.getElem?_map, hoe]; rfl), _, o, rfl, _, rfl, ?_⟩
      have pt' := pt.step hk hc ic
      by_cases hlt : laterO (plusO oc (some d)) o = true
      · rw [hlt]
        rw [if_pos hlt] at pt'
        refine iteT ⟨_, rfl, _, rfl, by show 2 ≤ sizeLine; decide, fun t nt => ?_⟩
        have x10 := x9.new (o := .tup [vO (plusO oc (some d)), .int (k : Int)]) nt
        refine ⟨t, _, rfl, .of upd_same, rfl, _, _, rfl, _, rfl, _, rfl, fo, _, _, e, rfl, rfl, x10.hfo, ixN_nat (by rw [List.length_map, List.length_set, sr.len]; exact hen), ?_⟩
        have eset2 : ((os.set e o).map vO).set e (vO (plusO oc (some d))) = (os.set e (plusO oc (some d))).map vO := by rw [← List.map_set, List.set_set]
        rw [eset2]
        have x11 := x10.setF ad (os' := os.set e (plusO oc (some d)))
        obtain ⟨cs, ecs, lcs⟩ := x11.hca
        refine ⟨_, _, rfl, _, rfl, _, rfl, ca, cs, _, e, rfl, rfl, ecs, ixN_nat (by rw [lcs]; exact hen), rfl, ?_⟩
        exact ⟨_, _, _, rfl, x11.setC ad (by rw [List.length_set]; exact lcs), pt'⟩
      · have hlt' : laterO (plusO oc (some d)) o = false := by simpa using hlt
        rw [hlt']
        rw [if_neg hlt] at pt'
        exact iteF ⟨_, _, _, rfl, x9, pt'⟩
    · rintro σ H9 ⟨o, y7, y8, rfl, x9, pt⟩
      rw [nats_len] at pt
      exact ⟨_, _, _, _, rfl, x9, sr.next he hen pt.full⟩
  · rintro σ H8 ⟨os, y3, y7, y8, rfl, x8, sr⟩
    rw [nats_len, List.take_length] at sr
    walk_at "n"
    refine ⟨_, rfl, _, rfl, by show 2 ≤ sizeLine; decide, fun t nt => ?_⟩
    refine q _ t fo _ os (x8.same.upd nt) frfo upd_same (upd_at x8.hfo nt) ⟨sr.len, fun b hb o e => ?_⟩
    have hF : b ∈ F := by
      apply Classical.byContradiction
      intro hF
      have hdec := (tp.ring hg).mpr hr
      have hl : n ≤ F.length := by have := of_decide_eq_false hdec; omega
      have := nodup_len n (b :: F) (List.nodup_cons.mpr ⟨hF, tp.nd⟩) fun x hx => by
        rcases List.mem_cons.mp hx with z | z
        · rw [z]; exact hb
        · exact tp.lt x z
      rw [List.length_cons] at this
      omega
    exact sr.done b hb hF o e
theorem rd_times_from (h : sp_times_from T vs H Q E) : t_times_from T (rtE Q) (start N_times_from vs) H := by
  unfold t_times_from; walk_at "n"
  obtain ⟨n, v, acts, one, rfl, hd, hg, hr, hone, q⟩ := h
  refine ⟨_, rfl, _, rfl, _, rfl, n, v, acts, one, rfl, hd, hg, hr, hone, fun H1 t p q' os s1 np et ep hf => ?_⟩
  exact ⟨t, _, 0, .ref p, rfl, rfl, .of et, atI_nat (j := 0) rfl, q H1 p os s1 np ep hf⟩
end
end A69
end

section
set_option maxRecDepth 100000
set_option maxHeartbeats 2000000
/-! R69i: readings: tables, pairs, sums. -/
namespace A69
open PySem PySem.Spec PyProof.Rows L2 KX MP
local macro_rules | `(tactic| walk_at "n") => `(tactic| dsimp only [rtE, tRet, tAndV, tOrV, tNotV, tCB, tCons, tNil, tVar, tC, tOp, tUn, tChain, tTest, tB, tAnd, tOr, tNot, tIf, tIfS, tSeq, tAsg, tDrop, tNext, gName, tPar, tPar3, tTup, tLst, tCall, tBM, tBM0, tSl, tPart, tNoPart, gTup, gCons, gNil, gSub, iRng1, iRng2, iList, iTup, iEnumT, iRgV, tYes])
theorem Found.row {acts : List Acty} {n one : Nat} {os : List (Option Int)} (h : Found acts n one os) : os = rowC n acts one := by
  apply List.ext_getElem (by simp [rowC, h.len])
  intro i h1 h2
  have hi : i < n := by rw [← h.len]; exact h1
  have := h.at_ i hi os[i] (List.getElem?_eq_getElem h1)
  simp only [rowC, List.getElem_map, List.getElem_range]
  exact (timeC_of this).symm
theorem flat_row (r : List (Option Int)) : flatD (eRow r) = true := by
  show flatAll (r.map eO) = true
  exact flatAll_map flat_eO r
theorem eP_inv {K : PySem.W.Frag} {H : Hp} {v : V} {n : Nat} {acts : List Acty} (h : Dp K H v (eP n acts)) : ∃ p w, v = .ref p ∧ SqT K H p [.int n, w] ∧ Dp K H w (eAs acts) := by
  obtain ⟨p, xs, rfl, hs, ha⟩ := h.tup_inv
  cases ha with
  | cons h1 h2 =>
    cases h2 with
    | cons h3 h4 =>
      cases h4
      cases h1.int_inv
      exact ⟨p, _, rfl, hs, h3⟩
/-- a table on the heap -/
theorem eT_get {K : PySem.W.Frag} {H : Hp} {v : V} {n : Nat} {rows : List (List (Option Int))} (h : Dp K H v (eT rows)) (sq : Square n rows) : ∃ p xs, v = .ref p ∧ SqT K H p xs ∧ xs.length = n ∧
    ∀ a, a < n → ∃ q ys, xs[a]? = some (V.ref q) ∧ SqT K H q ys ∧ ys.length = n ∧ ∀ b, b < n → ys[b]? = some (vO (at2 rows a b)) := by
  obtain ⟨p, xs, rfl, hs, ha⟩ := h.tup_inv
  have hl : xs.length = n := by rw [ha.length, List.length_map]; exact sq.1
  refine ⟨p, xs, rfl, hs, hl, fun a han => ?_⟩
  have har : a < rows.length := by rw [sq.1]; exact han
  obtain ⟨w, e1, hw⟩ := ha.get (i := a) (d := eRow rows[a]) (by rw [List.getElem?_map, List.getElem?_eq_getElem har]; rfl)
  obtain ⟨q, ys, rfl, hq, hy⟩ := hw.tup_inv
  have hr := sq.2 rows[a] (List.getElem_mem har)
  have ey : ys = rows[a].map vO := hy.os_inv
  refine ⟨q, ys, e1, hq, by rw [ey, List.length_map]; exact hr, fun b hb => ?_⟩
  have hbr : b < rows[a].length := by omega
  rw [ey, List.getElem?_map, List.getElem?_eq_getElem hbr]
  simp [at2, List.getElem?_eq_getElem har, List.getElem?_eq_getElem hbr]
theorem IsTab.square {n : Nat} {acts : List Acty} {rows : List (List (Option Int))} (h : IsTab n acts rows) : Square n rows := ⟨h.len, h.row⟩
section
variable {K : PySem.W.Frag} {mg : Str → Option Value} (T : TX K mg) {vs : List V} {H : Hp} {Q : VK} {E : XK}
theorem rd_times_of (h : sp_times_of T vs H Q E) : t_times_of T (rtE Q) (start N_times_of vs) H := by
  unfold t_times_of; walk_at "n"
  obtain ⟨v, n, acts, rfl, hd, hg, hr, q⟩ := h
  obtain ⟨p, w, rfl, hp, hw⟩ := eP_inv hd
  have h20 := hg.n20
  have en : ((n : Int)).toNat = n := by omega
  refine lc_def ⟨_, rfl, p, _, 0, _, rfl, rfl, hp, atI_nat (j := 0) rfl, _, rfl, by omega, by omega, ?_⟩
  rw [en]
  refine comp_rng (K := K) (fun i => some (eRow (rowC n acts i))) (by omega) (fun i d hi e => by cases e; exact flat_row _) ?_ ?_
  · intro i H2 hi s1 Qy Qn h1 _
    walk_at "n"
    refine ⟨rfl, iteT ?_⟩
    refine ⟨_, rfl, p, _, 0, _, rfl, rfl, s1.tup hp, atI_nat (j := 0) rfl, _, rfl, p, _, 1, _, rfl, rfl, s1.tup hp, atI_nat (j := 1) rfl, _, rfl, ?_⟩
    have ei : (0 : Int) + (i : Int) = ((i : Nat) : Int) := by omega
    refine ⟨n, w, acts, i, by rw [ei]; rfl, hw.same s1, hg, hr, hi, fun H3 l os s3 nl el hf => ?_⟩
    refine ⟨l, _, rfl, .inl ⟨.of el, fun t nt => ?_⟩⟩
    have s4 := s3.upd (o := .tup (os.map vO)) nt
    rw [hf.row] at s4 ⊢
    exact h1 _ rfl _ _ s4 (.tup (.of upd_same) DpAll.os)
  · intro D ys H' sm hD hx hy
    refine ⟨D, ys, rfl, .inl ⟨.of hx, fun t nt => ?_⟩⟩
    have s2 := sm.upd (o := .tup ys) nt
    refine q _ _ (tabC n acts) s2 (tabC_is hr) (.tup (.of upd_same) ?_)
    have e1 : (List.range n).filterMap (fun i => some (eRow (rowC n acts i))) = (tabC n acts).map eRow := by
      rw [fm_some]; simp [tabC]
    rw [e1] at hy
    exact hy.same (same_upd nt)
theorem rd_pairs_of (h : sp_pairs_of T vs H Q E) : t_pairs_of T (rtE Q) (start N_pairs_of vs) H := by
  unfold t_pairs_of; walk_at "n"
  obtain ⟨v, n, rows, rfl, hd, sq, h20, q⟩ := h
  obtain ⟨p, xs, rfl, hs, hl, hat⟩ := eT_get hd sq
  refine ⟨_, rfl, p, xs, rfl, .inr hs, _, rfl, fun g ng => ?_⟩
  rw [hl]
  have s1 : Same H (upd H g (.rng 0 n)) := same_upd ng
  have en : ((n : Int) - 0).toNat = n := by omega
  refine comp2_rng (K := K) (n := n) (n1 := n) (fun a b => if (a != b && (at2 rows a b).isSome) = true then some (e2 (a, b)) else none) ?_ (fun a b d _ _ e => ?_) (fun R r => ?_) (fun x => rfl) (fun x y => rfl) (fun a H2 R ha s2 r => ?_) ?_ ?_
  · have : n * n ≤ 20 * 20 := Nat.mul_le_mul h20 h20
    omega
  · split at e
    · cases e; rfl
    · cases e
  · refine ⟨_, rfl, g, 0, n, rfl, upd_same, ⟨by decide, by decide, by omega, by omega⟩, ?_⟩
    rw [en]; exact r
  · refine ⟨_, rfl, g, 0, n, rfl, s2 _ _ upd_same, ⟨by decide, by decide, by omega, by omega⟩, ?_⟩
    rw [en]; exact r
  · intro a b H2 ha hb s2 Qy Qn h1 h2
    walk_at "n"
    have sT := s1.trans s2
    obtain ⟨qa, ys, ea, ta, _, hb'⟩ := hat a ha
    refine ⟨_, rfl, _, rfl, rfl, _, rfl, ?_⟩
    by_cases hab : a = b
    · have e0 : decide (V.int (a : Int) = V.int (b : Int)) = true := by rw [hab]; exact decide_eq_true rfl
      rw [e0]
      refine iteF (iteF (h2 ?_ _ (Same.refl _)))
      simp [hab]
    · have e0 : decide (V.int (a : Int) = V.int (b : Int)) = false := by
        apply decide_eq_false
        intro z
        injection z with z
        omega
      rw [e0]
      refine iteT ⟨_, rfl, _, rfl, p, xs, _, .ref qa, rfl, rfl, sT.tup hs, atI_nat ea, _, rfl, qa, ys, _, _, rfl, rfl, sT.tup ta, atI_nat (hb' b hb), rfl, _, rfl, ?_⟩
      rw [vO_non]
      cases hz : at2 rows a b with
      | none =>
        refine iteF (h2 ?_ _ (Same.refl _))
        simp [hz]
      | some m =>
        refine iteT ⟨_, rfl, _, rfl, by show 2 ≤ sizeLine; decide, fun t nt => ?_⟩
        refine h1 (e2 (a, b)) ?_ _ _ (same_upd nt) (.tup (.of upd_same) (.cons (.int _) (.cons (.int _) .nil)))
        simp [hz, hab]
  · intro D ys H' sm hD hx hy
    refine q H' D ys (s1.trans sm) (s1.free hD) hx ?_
    have e1 : made2 (fun a b => if (a != b && (at2 rows a b).isSome) = true then some (e2 (a, b)) else none) n n = (pairsR n rows).map e2 := by
      unfold made2 pairsR
      rw [List.map_flatMap]
      congr 1
      funext a
      rw [List.map_map]
      exact fm_if (fun b => a != b && (at2 rows a b).isSome) (fun b => e2 (a, b)) (List.range n)
    rw [e1] at hy
    exact hy
end
end A69
end

section
set_option maxRecDepth 100000
set_option maxHeartbeats 2000000
/-! R69j: readings: sums between. -/
namespace A69
open PySem PySem.Spec PyProof.Rows L2 KX MP
local macro_rules | `(tactic| walk_at "n") => `(tactic| dsimp only [rtE, tRet, tAndV, tOrV, tNotV, tCB, tCons, tNil, tVar, tC, tOp, tUn, tChain, tTest, tB, tAnd, tOr, tNot, tIf, tIfS, tSeq, tAsg, tDrop, tNext, gName, tPar, tPar3, tTup, tLst, tCall, tBM, tBM0, tSl, tPart, tNoPart, gTup, gCons, gNil, gSub, iRng1, iRng2, iList, iTup, iEnumT, iRgV, tYes])
theorem inV2 (c a b : Nat) : inV (.int (c : Int)) [.int (a : Int), .int (b : Int)] = !(c != a && c != b) := by
  simp only [inV, List.any_cons, List.any_nil, Bool.or_false, Bool.not_and]
  have e : ∀ x y : Nat, eqV (.int (x : Int)) (.int (y : Int)) = !(y != x) := fun x y => by
    have : (eqV (.int (x : Int)) (.int (y : Int)) = true) ↔ x = y := by
      show ((x : Int) == (y : Int)) = true ↔ x = y
      rw [beq_iff_eq]; omega
    by_cases h : x = y
    · rw [this.mpr h]; simp [h]
    · have h' : eqV (.int (x : Int)) (.int (y : Int)) = false := by
        cases z : eqV (.int (x : Int)) (.int (y : Int)) with
        | false => rfl
        | true => exact absurd (this.mp z) h
      rw [h']
      have : (y != x) = true := by simpa using Ne.symm h
      rw [this]; rfl
  rw [e, e]
theorem fmo (l : List (Option Int)) : l.filterMap (fun o => o.map PyData.int) = (l.filterMap id).map PyData.int := by
  induction l with
  | nil => rfl
  | cons a l ih => cases a <;> simp [List.filterMap_cons, ih]
section
variable {K : PySem.W.Frag} {mg : Str → Option Value} (T : TX K mg) {vs : List V} {H : Hp} {Q : VK} {E : XK}
theorem rd_sums_between (h : sp_sums_between T vs H Q E) : t_sums_between T (rtE Q) (start N_sums_between vs) H := by
  unfold t_sums_between; walk_at "n"
  obtain ⟨v, n, rows, a, b, rfl, hd, sq, h20, ha, hb, q⟩ := h
  obtain ⟨p, xs, rfl, hs, hl, hat⟩ := eT_get hd sq
  have en : ((n : Int)).toNat = n := by omega
  refine lc_def ⟨_, rfl, p, xs, rfl, .inr hs, _, rfl, by omega, by omega, ?_⟩
  rw [hl, en]
  refine comp_rng (K := K) (fun c => if (c != a && c != b) = true then some (eO (plusO (at2 rows a c) (at2 rows c b))) else none) (by omega) (fun c d _ e => ?_) ?_ ?_
  · split at e
    · cases e; exact flat_eO _
    · cases e
  · intro c H2 hc s1 Qy Qn h1 h2
    walk_at "n"
    have ec : (0 : Int) + (c : Int) = ((c : Nat) : Int) := by omega
    rw [ec]
    refine ⟨rfl, _, rfl, _, rfl, _, rfl, by show 2 ≤ sizeLine; decide, fun t nt => ⟨t, _, rfl, .inr (.of upd_same), rfl, rfl, ?_⟩⟩
    have s2 : Same H (upd H2 t (.tup [V.int a, V.int b])) := s1.upd nt
    have s3 : Same H2 (upd H2 t (.tup [V.int a, V.int b])) := same_upd nt
    rw [inV2, if_pos rfl, Bool.not_not]
    by_cases hab : (c != a && c != b) = true
    · rw [hab]
      obtain ⟨q1, ys, ea, ta, _, hya⟩ := hat a ha
      obtain ⟨q2, zs, ez, tz, _, hyc⟩ := hat c hc
      refine ⟨_, rfl, iteT ⟨_, rfl, _, rfl, p, xs, _, .ref q1, rfl, rfl, s2.tup hs, atI_nat ea, _, rfl, q1, ys, _, _, rfl, rfl, s2.tup ta, atI_nat (hya c hc), ?_⟩⟩
      refine ⟨_, rfl, _, rfl, p, xs, _, .ref q2, rfl, rfl, s2.tup hs, atI_nat ez, _, rfl, q2, zs, _, _, rfl, rfl, s2.tup tz, atI_nat (hyc b hb), ?_⟩
      exact ⟨_, _, rfl, h1 _ (if_pos hab) _ _ s3 (dp_vO _)⟩
    · have hab' : (c != a && c != b) = false := by simpa using hab
      rw [hab']
      exact ⟨_, rfl, iteF (h2 (by rw [if_neg hab]) _ s3)⟩
  · intro D ys H' sm hD hx hy
    rw [fm_if] at hy
    have ey := hy
    rw [show (List.filter (fun c => c != a && c != b) (List.range n)).map (fun c => eO (plusO (at2 rows a c) (at2 rows c b))) = (((List.range n).filter fun c => c != a && c != b).map fun c => plusO (at2 rows a c) (at2 rows c b)).map eO from by rw [List.map_map]; rfl] at ey
    have ey2 := ey.os_inv
    generalize hL : (((List.range n).filter fun c => c != a && c != b).map fun c => plusO (at2 rows a c) (at2 rows c b)) = L at ey2
    have hlen : L.length ≤ n := by
      rw [← hL, List.length_map]
      have := List.length_filter_le (fun c => c != a && c != b) (List.range n)
      simpa using this
    subst ey2
    refine lc_def ⟨_, rfl, D, rfl, ⟨_, .of hx⟩, ?_⟩
    refine comp_lst (K := K) (xs := L.map vO) (.of hx) (fun i => (L[i]?).bind fun o => o.map PyData.int) (by rw [List.length_map]; omega) (fun i d _ e => ?_) ?_ ?_
    · cases z : L[i]? with
      | none => rw [z] at e; cases e
      | some o => rw [z] at e; cases o <;> cases e; rfl
    · intro i x H2 ex s1 Qy Qn h1 h2
      rw [List.getElem?_map] at ex
      cases z : L[i]? with
      | none => rw [z] at ex; cases ex
      | some o =>
        rw [z] at ex
        cases ex
        walk_at "n"
        rw [z] at h1 h2
        refine ⟨rfl, _, rfl, rfl, _, rfl, ?_⟩
        rw [vO_non]
        cases o with
        | none => exact iteF (h2 rfl _ (Same.refl _))
        | some m => exact iteT ⟨_, rfl, h1 (.int m) rfl _ _ (Same.refl _) (.int _)⟩
    · intro D2 zs H3 sm3 hD3 hx3 hy3
      rw [List.length_map, fm_list, fmo] at hy3
      refine q H3 D2 (sm.trans sm3) (sm.free hD3) ?_
      rw [hx3, hy3.ints_inv]
      simp only [sumsR]
      rw [hL]
end
end A69
end

section
set_option maxRecDepth 100000
set_option maxHeartbeats 2000000
/-! R69k: readings: closures and reduced plans. -/
namespace A69
open PySem PySem.Spec PyProof.Rows L2 KX MP
local macro_rules | `(tactic| walk_at "n") => `(tactic| dsimp only [rtE, tRet, tAndV, tOrV, tNotV, tCB, tCons, tNil, tVar, tC, tOp, tUn, tChain, tTest, tB, tAnd, tOr, tNot, tIf, tIfS, tSeq, tAsg, tDrop, tNext, gName, tPar, tPar3, tTup, tLst, tCall, tBM, tBM0, tSl, tPart, tNoPart, gTup, gCons, gNil, gSub, iRng1, iRng2, iList, iTup, iEnumT, iRgV, tYes])

def lexP (p q : Nat × Nat) : Prop := p.1 < q.1 ∨ (p.1 = q.1 ∧ p.2 < q.2)
theorem pairsR_lex (n : Nat) (rows : List (List (Option Int))) : (pairsR n rows).Pairwise lexP := by
  unfold pairsR
  rw [List.pairwise_flatMap]
  constructor
  · intro a _
    rw [List.pairwise_map]
    exact (List.pairwise_lt_range.filter _).imp fun h => .inr ⟨rfl, h⟩
  · refine List.pairwise_lt_range.imp fun {a b} h x hx y hy => ?_
    obtain ⟨_, _, rfl⟩ := List.mem_map.mp hx
    obtain ⟨_, _, rfl⟩ := List.mem_map.mp hy
    exact .inl h
theorem lex_leA {rows : List (List (Option Int))} {p q : Nat × Nat} (h : lexP p q) : leA (withD rows p) (withD rows q) = true := by
  show decide (toL (withD rows p) ≤ toL (withD rows q)) = true
  apply decide_eq_true
  simp only [toL, withD]
  rcases h with h | ⟨h1, h2⟩
  · apply List.le_of_lt
    exact List.Lex.rel (by omega)
  · apply List.le_of_lt
    rw [h1]
    exact List.Lex.cons (List.Lex.rel (by omega))
theorem sort_self {n : Nat} {rows : List (List (Option Int))} (l : List (Nat × Nat)) (h : l.Sublist (pairsR n rows)) : (l.map (withD rows)).mergeSort leA = l.map (withD rows) := by
  apply List.mergeSort_of_pairwise
  rw [List.pairwise_map]
  exact ((pairsR_lex n rows).sublist h).imp lex_leA
theorem pairsR_len (n : Nat) (rows : List (List (Option Int))) : (pairsR n rows).length ≤ n * n := by
  have h : ∀ k, ((List.range k).flatMap fun a => ((List.range n).filter fun b => a != b && (at2 rows a b).isSome).map fun b => (a, b)).length ≤ k * n := by
    intro k
    induction k with
    | zero => simp
    | succ k ih =>
      rw [List.range_succ, List.flatMap_append, List.length_append, Nat.succ_mul]
      have := List.length_filter_le (fun b => k != b && (at2 rows k b).isSome) (List.range n)
      simp only [List.length_range] at this
      simp only [List.flatMap_cons, List.flatMap_nil, List.append_nil, List.length_map]
      omega
  exact h n
theorem tight_sums {n : Nat} {rows : List (List (Option Int))} {a b : Nat} {d : Int} (e : at2 rows a b = some d) : (sumsR n rows a b).all (fun s => decide (s < d)) = tight n rows (a, b) := by
  have hb : ∀ x y : Bool, (x = true ↔ y = true) → x = y := by decide
  apply hb
  rw [tight_iff e, List.all_eq_true]
  simp only [sumsR, List.mem_filterMap, List.mem_map, List.mem_filter, List.mem_range, Bool.and_eq_true, bne_iff_ne, ne_eq, id_eq, exists_eq_right, decide_eq_true_eq]
  constructor
  · intro h c hc ha hb x y e1 e2
    exact h (x + y) ⟨c, ⟨hc, ha, hb⟩, by rw [e1, e2]; rfl⟩
  · rintro h s ⟨c, ⟨hc, ha, hb⟩, e3⟩
    cases e1 : at2 rows a c with
    | none => rw [e1] at e3; cases e3
    | some x =>
      cases e2 : at2 rows c b with
      | none => rw [e1, e2] at e3; cases e3
      | some y =>
        rw [e1, e2] at e3
        cases e3
        exact h c hc ha hb x y e1 e2
theorem eP_inj {n m : Nat} {l k : List Acty} (z : eP n l = eP m k) : n = m ∧ l = k := by
  injection z with z
  injection z with z1 z2
  injection z2 with z2 _
  injection z1 with z1
  injection z2 with z2
  exact ⟨by omega, eAs_inj z2⟩
section
variable {K : PySem.W.Frag} {mg : Str → Option Value} (T : TX K mg) {vs : List V} {H : Hp} {Q : VK} {E : XK}
theorem Throws.same {E : XK} {H H' : Hp} {C : Addr} {f : Str} {v : V} (h : Throws E H C f v) (s : Same H H') : Throws E H' C f v :=
  fun H2 e s2 ne he => h H2 e (s.trans s2) (s.free ne) he
theorem rd_closure (h : sp_closure T vs H Q E) : t_closure T E (rtE Q) (start N_closure vs) H := by
  unfold t_closure; walk_at "n"
  obtain ⟨v, d, rfl, hd, q1, q2⟩ := h
  refine ⟨_, rfl, v, d, rfl, hd, fun hp H1 s1 => ?_, fun hn => q2 hn⟩
  obtain ⟨n, acts, rfl, hv⟩ := hp
  have hrows := tabC_is (n := n) hv.rank
  obtain ⟨q1, q3⟩ := q1 n acts rfl hv _ hrows
  generalize tabC n acts = rows at *
  have h20 := hv.good.n20
  refine ⟨_, rfl, _, n, acts, rfl, hd.same s1, hv.good, hv.rank, fun H2 f rows' s2 ht df => ?_⟩
  cases ht.uniq hrows
  have sq := A69.IsTab.square hrows
  refine ⟨_, rfl, _, n, rows, rfl, df, sq, h20, fun H3 p xs s3 np ep dxs => ?_⟩
  have hlx : xs.length = (closR n rows).length := by rw [dxs.length, List.length_map, closR, List.length_map]
  have hlp := pairsR_len n rows
  have hlc : (closR n rows).length = (pairsR n rows).length := by rw [closR, List.length_map]
  have h400 : n * n ≤ 20 * 20 := Nat.mul_le_mul h20 h20
  have s03 : Same H H3 := (s1.trans s2).trans s3
  refine ⟨_, rfl, p, xs, rfl, .inl (.of ep), _, _, rfl, rfl, _, rfl, ?_⟩
  by_cases hm : 120 < (closR n rows).length
  · have hd' : decide ((xs.length : Int) > 120) = true := decide_eq_true (by omega)
    rw [hd']
    refine iteT ?_
    refine raise_ (f := "count") (v := .int (closR n rows).length) ((q3 hm).same s03) fun Q q => ?_
    refine ⟨_, rfl, p, xs, rfl, .inl (.of ep), ?_⟩
    rw [hlx]; exact q
  · have hd' : decide ((xs.length : Int) > 120) = false := decide_eq_false (by omega)
    rw [hd']
    refine iteF ?_
    obtain ⟨p0, w, rfl, hp, hw⟩ := eP_inv (hd.same s03)
    obtain ⟨pf, fs, rfl, hf, hlf, hat⟩ := eT_get (df.same s3) sq
    refine ⟨_, rfl, p0, _, 0, _, rfl, rfl, hp, atI_nat (j := 0) rfl, ?_⟩
    refine lc_def ⟨_, rfl, p, rfl, ⟨_, .of ep⟩, ?_⟩
    refine comp_lst (K := K) (xs := xs) (.of ep) (fun i => ((pairsR n rows)[i]?).map fun p => eA (withD rows p)) (by omega) (fun i d _ e => ?_) ?_ ?_
    · cases z : (pairsR n rows)[i]? with
      | none => rw [z] at e; cases e
      | some o => rw [z] at e; cases e; rfl
    · intro i x H4 ex s4 Qy Qn h1 h2
      obtain ⟨dx, e1, hx⟩ := dxs.getV ex
      rw [List.getElem?_map] at e1
      cases z : (pairsR n rows)[i]? with
      | none => rw [z] at e1; cases e1
      | some o =>
        rw [z] at e1
        cases e1
        obtain ⟨a, b⟩ := o
        obtain ⟨han, hbn, hab, hsome⟩ := mem_pairsR.mp (List.mem_of_getElem? z)
        rw [z] at h1
        obtain ⟨t, ts, rfl, ht', ha⟩ := hx.tup_inv
        cases ha with
        | cons g1 g2 =>
          cases g2 with
          | cons g3 g4 =>
            cases g4
            cases g1.int_inv
            cases g3.int_inv
            walk_at "n"
            refine ⟨t, _, rfl, s4.tup ht', rfl, _, _, rfl, _, _, rfl, rfl, rfl, iteT ?_⟩
            obtain ⟨qa, ys, ea, ta, _, hyb⟩ := hat a han
            refine ⟨_, rfl, _, rfl, _, rfl, _, rfl, pf, fs, _, _, rfl, rfl, s4.tup hf, atI_nat ea, _, rfl, qa, ys, _, _, rfl, rfl, s4.tup ta, atI_nat (hyb b hbn), ?_⟩
            refine ⟨by show 3 ≤ sizeLine; decide, fun u nu => ?_⟩
            refine h1 _ rfl _ _ (same_upd nu) (.tup (.of upd_same) (.cons (.int _) (.cons (.int _) (.cons ?_ .nil))))
            cases zz : at2 rows a b with
            | none => rw [zz] at hsome; cases hsome
            | some m => simp only [withD, zz]; exact .int _
    · intro D ys H' sm hD hx hy
      have e1 : (List.range xs.length).filterMap (fun i => ((pairsR n rows)[i]?).map fun p => eA (withD rows p)) = (closR n rows).map eA := by
        rw [hlx, hlc, fm_map, closR, List.map_map]; rfl
      rw [e1] at hy
      refine ⟨n, D, ys, closR n rows, rfl, .of hx, hy, by omega, fun H5 v' s5 d5 => ?_⟩
      rw [closR, sort_self _ (List.Sublist.refl _)] at d5
      exact q1 (by omega) H5 v' ((s03.trans sm).trans s5) d5
end
end A69
end

section
set_option maxRecDepth 100000
set_option maxHeartbeats 2000000
/-! R69l: readings: reduced plans, spare activities. -/
namespace A69
open PySem PySem.Spec PyProof.Rows L2 KX MP
local macro_rules | `(tactic| walk_at "n") => `(tactic| dsimp only [rtE, tRet, tAndV, tOrV, tNotV, tCB, tCons, tNil, tVar, tC, tOp, tUn, tChain, tTest, tB, tAnd, tOr, tNot, tIf, tIfS, tSeq, tAsg, tDrop, tNext, gName, tPar, tPar3, tTup, tLst, tCall, tBM, tBM0, tSl, tPart, tNoPart, gTup, gCons, gNil, gSub, iRng1, iRng2, iList, iTup, iEnumT, iRgV, tYes])

section
variable {K : PySem.W.Frag} {mg : Str → Option Value} (T : TX K mg) {vs : List V} {H : Hp} {Q : VK} {E : XK}
theorem pair_inv {K : PySem.W.Frag} {H : Hp} {v : V} {a b : Nat} (h : Dp K H v (e2 (a, b))) : ∃ t, v = .ref t ∧ SqT K H t [.int a, .int b] := by
  obtain ⟨t, ts, rfl, ht', ha⟩ := h.tup_inv
  cases ha with
  | cons g1 g2 =>
    cases g2 with
    | cons g3 g4 =>
      cases g4
      cases g1.int_inv
      cases g3.int_inv
      exact ⟨t, rfl, ht'⟩
/-- a list of pairs at hand -/
theorem pairs_get {K : PySem.W.Frag} {H : Hp} {xs : List V} {L : List (Nat × Nat)} (h : DpAll K H xs (L.map e2)) {i : Nat} {x : V} (e : xs[i]? = some x) :
    ∃ a b t, L[i]? = some (a, b) ∧ x = .ref t ∧ SqT K H t [.int a, .int b] := by
  obtain ⟨dx, e1, hx⟩ := h.getV e
  rw [List.getElem?_map] at e1
  cases z : L[i]? with
  | none => rw [z] at e1; cases e1
  | some o =>
    rw [z] at e1
    cases e1
    obtain ⟨t, rfl, ht⟩ := pair_inv hx
    exact ⟨o.1, o.2, t, rfl, rfl, ht⟩
theorem rd_reduced (h : sp_reduced T vs H Q E) : t_reduced T E (rtE Q) (start N_reduced vs) H := by
  unfold t_reduced; walk_at "n"
  obtain ⟨v, d, rfl, hd, q1, q2⟩ := h
  refine ⟨_, rfl, v, d, rfl, hd, fun hp H1 s1 => ?_, fun hn => q2 hn⟩
  obtain ⟨n, acts, rfl, hv⟩ := hp
  have hrows := tabC_is (n := n) hv.rank
  have q1 := q1 n acts rfl hv _ hrows
  generalize tabC n acts = rows at *
  have h20 := hv.good.n20
  refine ⟨_, rfl, _, n, acts, rfl, hd.same s1, hv.good, hv.rank, fun H2 f rows' s2 ht df => ?_⟩
  cases ht.uniq hrows
  have sq := A69.IsTab.square hrows
  obtain ⟨pf, fs, rfl, hf, hlf, hat⟩ := eT_get df sq
  have hlp := pairsR_len n rows
  have h400 : n * n ≤ 20 * 20 := Nat.mul_le_mul h20 h20
  refine lc_def ⟨_, rfl, _, n, rows, rfl, df, sq, h20, fun H3 p xs s3 np ep dxs => ⟨p, rfl, ⟨_, .of ep⟩, ?_⟩⟩
  have hlx : xs.length = (pairsR n rows).length := by rw [dxs.length, List.length_map]
  have s03 : Same H H3 := (s1.trans s2).trans s3
  refine comp_lst (K := K) (xs := xs) (.of ep) (fun i => ((pairsR n rows)[i]?).bind fun p => if tight n rows p = true then some (e2 p) else none) (by omega) (fun i d _ e => ?_) ?_ ?_
  · cases z : (pairsR n rows)[i]? with
    | none => rw [z] at e; cases e
    | some o =>
      rw [z] at e
      dsimp only [Option.bind] at e
      split at e
      · cases e; rfl
      · cases e
  · intro i x H4 ex s4 Qy Qn h1 h2
    obtain ⟨a, b, t, z, rfl, ht'⟩ := pairs_get dxs ex
    obtain ⟨han, hbn, hab, hsome⟩ := mem_pairsR.mp (List.mem_of_getElem? z)
    rw [z] at h1 h2
    dsimp only [Option.bind] at h1 h2
    obtain ⟨m, em⟩ : ∃ m, at2 rows a b = some m := Option.isSome_iff_exists.mp hsome
    obtain ⟨qa, ys, ea, ta, _, hyb⟩ := hat a han
    have eb := hyb b hbn
    rw [em] at eb
    have s24 := s3.trans s4
    walk_at "n"
    refine ⟨t, _, rfl, s4.tup ht', rfl, _, _, rfl, _, _, rfl, rfl, rfl, ?_⟩
    refine lc_def ⟨_, rfl, _, rfl, _, rfl, _, n, rows, a, b, rfl, df.same s24, sq, h20, han, hbn, fun H5 g s5 ng eg => ⟨g, rfl, ⟨_, .of eg⟩, ?_⟩⟩
    generalize hL : sumsR n rows a b = L at eg
    have hlL : L.length ≤ n := by
      rw [← hL]
      unfold sumsR
      refine Nat.le_trans (List.length_filterMap_le _ _) ?_
      rw [List.length_map]
      have := List.length_filter_le (fun c => c != a && c != b) (List.range n)
      simpa using this
    refine comp_lst (K := K) (xs := L.map V.int) (.of eg) (fun i => (L[i]?).map fun s => PyData.bool (decide (s < m))) (by rw [List.length_map]; omega) (fun i d _ e => ?_) ?_ ?_
    · cases z : L[i]? with
      | none => rw [z] at e; cases e
      | some o => rw [z] at e; cases e; rfl
    · intro i x H6 ex s6 Qy2 Qn2 k1 k2
      rw [List.getElem?_map] at ex
      cases z : L[i]? with
      | none => rw [z] at ex; cases ex
      | some s =>
        rw [z] at ex
        cases ex
        rw [z] at k1
        walk_at "n"
        have s26 := (s24.trans s5).trans s6
        refine ⟨rfl, iteT ?_⟩
        refine ⟨_, rfl, _, rfl, _, rfl, pf, fs, _, _, rfl, rfl, s26.tup hf, atI_nat ea, _, rfl, qa, ys, _, _, rfl, rfl, s26.tup ta, atI_nat eb, ?_⟩
        exact ⟨_, _, rfl, rfl, k1 _ rfl _ _ (Same.refl _) (.bl _)⟩
    · intro D bs H6 sm6 hD6 hx6 hy6
      rw [List.length_map, fm_map] at hy6
      have ebs : bs = (L.map fun s => decide (s < m)).map V.bl := by
        apply DpAll.bls_inv (K := K) (H := H6)
        rw [List.map_map]; exact hy6
      refine ⟨D, _, rfl, .of (by rw [← ebs]; exact hx6), _, rfl, ?_⟩
      have et : (L.map fun s => decide (s < m)).all id = tight n rows (a, b) := by
        rw [← tight_sums em, hL, List.all_map]; rfl
      rw [et]
      have s46 : Same H4 H6 := s5.trans sm6
      cases htt : tight n rows (a, b) with
      | true =>
        rw [htt] at h1
        refine iteT ⟨_, rfl, _, rfl, by show 2 ≤ sizeLine; decide, fun u nu => ?_⟩
        exact h1 _ (if_pos rfl) _ _ (s46.upd nu) (.tup (.of upd_same) (.cons (.int _) (.cons (.int _) .nil)))
      | false =>
        rw [htt] at h2
        exact iteF (h2 (if_neg (fun z => nomatch z)) _ s46)
  · intro D ys H4 sm hD hx hy
    rw [hlx, fm_list, fm_if] at hy
    obtain ⟨p0, w, rfl, hp, hw⟩ := eP_inv (hd.same (s03.trans sm))
    refine ⟨_, rfl, p0, _, 0, _, rfl, rfl, hp, atI_nat (j := 0) rfl, ?_⟩
    refine lc_def ⟨_, rfl, D, rfl, ⟨_, .of hx⟩, ?_⟩
    generalize hR : (pairsR n rows).filter (tight n rows) = R at hy
    have hR' : (pairsR n rows).filter (fun x => tight n rows x) = R := hR
    have hsub : R.Sublist (pairsR n rows) := by rw [← hR]; exact List.filter_sublist
    have hly : ys.length = R.length := by rw [hy.length, List.length_map]
    have hlR : R.length ≤ (pairsR n rows).length := hsub.length_le
    have red : redR n rows = R.map (withD rows) := by rw [redR, hR]
    refine comp_lst (K := K) (xs := ys) (.of hx) (fun i => (R[i]?).map fun p => eA (withD rows p)) (by omega) (fun i d _ e => ?_) ?_ ?_
    · cases z : R[i]? with
      | none => rw [z] at e; cases e
      | some o => rw [z] at e; cases e; rfl
    · intro i x H5 ex s5 Qy Qn h1 h2
      obtain ⟨a, b, t, z, rfl, ht'⟩ := pairs_get hy ex
      obtain ⟨han, hbn, hab, hsome⟩ := mem_pairsR.mp (hsub.subset (List.mem_of_getElem? z))
      rw [z] at h1
      obtain ⟨m, em⟩ : ∃ m, at2 rows a b = some m := Option.isSome_iff_exists.mp hsome
      have s25 := (s3.trans sm).trans s5
      walk_at "n"
      refine ⟨t, _, rfl, s5.tup ht', rfl, _, _, rfl, _, _, rfl, rfl, rfl, iteT ?_⟩
      obtain ⟨qa, zs, ea, ta, _, hyb⟩ := hat a han
      refine ⟨_, rfl, _, rfl, _, rfl, _, rfl, pf, fs, _, _, rfl, rfl, s25.tup hf, atI_nat ea, _, rfl, qa, zs, _, _, rfl, rfl, s25.tup ta, atI_nat (hyb b hbn), ?_⟩
      refine ⟨by show 3 ≤ sizeLine; decide, fun u nu => ?_⟩
      refine h1 _ rfl _ _ (same_upd nu) (.tup (.of upd_same) (.cons (.int _) (.cons (.int _) (.cons ?_ .nil))))
      simp only [withD, em]; exact .int _
    · intro D2 zs H5 sm5 hD5 hx5 hy5
      have e1 : (List.range ys.length).filterMap (fun i => (R[i]?).map fun p => eA (withD rows p)) = (redR n rows).map eA := by
        rw [hly, fm_map, red, List.map_map]; rfl
      rw [e1] at hy5
      refine ⟨n, D2, zs, redR n rows, rfl, .of hx5, hy5, by rw [red, List.length_map]; omega, fun H6 v' s6 d6 => ?_⟩
      rw [red, sort_self _ hsub, ← red] at d6
      exact q1 H6 v' (((s03.trans sm).trans sm5).trans s6) d6
end
end A69
end

section
set_option maxRecDepth 100000
set_option maxHeartbeats 2000000
/-! R69m: readings: spare activities. -/
namespace A69
open PySem PySem.Spec PyProof.Rows L2 KX MP
local macro_rules | `(tactic| walk_at "n") => `(tactic| dsimp only [rtE, tRet, tAndV, tOrV, tNotV, tCB, tCons, tNil, tVar, tC, tOp, tUn, tChain, tTest, tB, tAnd, tOr, tNot, tIf, tIfS, tSeq, tAsg, tDrop, tNext, gName, tPar, tPar3, tTup, tLst, tCall, tBM, tBM0, tSl, tPart, tNoPart, gTup, gCons, gNil, gSub, iRng1, iRng2, iList, iTup, iEnumT, iRgV, tYes])

theorem eqv_row (r1 r2 : List (Option Int)) : PyData.eqv (eRow r1) (eRow r2) = decide (r1 = r2) := by
  have := eqv_all eqv_o r1 r2
  show PyData.eqv (.tuple (r1.map eO)) (.tuple (r2.map eO)) = _
  simp only [PyData.eqv]
  exact this
theorem eqv_T (r1 r2 : List (List (Option Int))) : PyData.eqv (eT r1) (eT r2) = decide (r1 = r2) := by
  have := eqv_all eqv_row r1 r2
  show PyData.eqv (.tuple (r1.map eRow)) (.tuple (r2.map eRow)) = _
  simp only [PyData.eqv]
  exact this
theorem sh_row (r : List (Option Int)) : Sh 1 (eRow r) := sh_tuple sh_o r
theorem sh_T (r : List (List (Option Int))) : Sh 2 (eT r) := sh_tuple sh_row r
theorem take_ {K : PySem.W.Frag} {H : Hp} {v : V} {ds : List PyData} {k : Nat} {Q : VK} (h : Dp K H v (.tuple ds)) (hk : k ≤ ds.length)
    (q : ∀ H' v', Same H H' → Dp K H' v' (.tuple (ds.take k)) → Q v' H') : rSlA K v none (some (k : Int)) H Q := by
  obtain ⟨p, xs, rfl, hs, ha⟩ := h.tup_inv
  have hl := ha.length
  refine ⟨p, xs, rfl, hs, ?_, ?_⟩
  · rintro ⟨_, h2⟩
    rw [HT.sIx_nat] at h2
    refine q H _ (Same.refl _) ?_
    rw [List.take_of_length_le (by omega)]
    exact .tup hs ha
  · intro _ u nu
    refine q _ _ (same_upd nu) (.tup (.of upd_same) ?_)
    have e : cutV xs none (some (k : Int)) = xs.take k := by
      unfold cutV
      rw [HT.sIx_nat, HT.sIx_none, List.drop_zero, Nat.sub_zero, Nat.min_eq_left (by omega)]
    rw [e]
    exact (ha.take k).same (same_upd nu)
theorem drop_ {K : PySem.W.Frag} {H : Hp} {v : V} {ds : List PyData} {k : Nat} {Q : VK} (h : Dp K H v (.tuple ds)) (hk : k ≤ ds.length)
    (q : ∀ H' v', Same H H' → Dp K H' v' (.tuple (ds.drop k)) → Q v' H') : rSlA K v (some (k : Int)) none H Q := by
  obtain ⟨p, xs, rfl, hs, ha⟩ := h.tup_inv
  have hl := ha.length
  refine ⟨p, xs, rfl, hs, ?_, ?_⟩
  · rintro ⟨h2, _⟩
    rw [HT.sIx_nat] at h2
    refine q H _ (Same.refl _) ?_
    have : k = 0 ∨ xs.length = 0 := by omega
    have e : ds.drop k = ds := by
      rcases this with z | z
      · rw [z]; rfl
      · have : ds = [] := List.length_eq_zero_iff.mp (by omega)
        rw [this]; simp
    rw [e]
    exact .tup hs ha
  · intro _ u nu
    refine q _ _ (same_upd nu) (.tup (.of upd_same) ?_)
    have e : cutV xs (some (k : Int)) none = xs.drop k := by
      unfold cutV
      rw [HT.sIx_nat, HT.sIx_none, Nat.min_eq_left (by omega)]
      exact List.take_of_length_le (by rw [List.length_drop]; omega)
    rw [e]
    exact (ha.drop k).same (same_upd nu)
theorem cat_ {K : PySem.W.Frag} {H : Hp} {v u : V} {ds es : List PyData} {Q : VK} (h : Dp K H v (.tuple ds)) (g : Dp K H u (.tuple es)) (hz : ds.length + es.length ≤ sizeLine)
    (q : ∀ H' v', Same H H' → Dp K H' v' (.tuple (ds ++ es)) → Q v' H') : rCatA K v u H Q := by
  obtain ⟨p, xs, rfl, hs, ha⟩ := h.tup_inv
  obtain ⟨p2, ys, rfl, hs2, ha2⟩ := g.tup_inv
  have hl := ha.length
  have hl2 := ha2.length
  refine ⟨p, p2, xs, ys, rfl, rfl, hs, hs2, by omega, ?_, ?_, ?_⟩
  · intro z
    have : ds = [] := List.length_eq_zero_iff.mp (by rw [← hl, z]; rfl)
    rw [this] at q
    exact q H _ (Same.refl _) g
  · intro _ z
    have : es = [] := List.length_eq_zero_iff.mp (by rw [← hl2, z]; rfl)
    rw [this, List.append_nil] at q
    exact q H _ (Same.refl _) h
  · intro _ _ t nt
    exact q _ _ (same_upd nt) (.tup (.of upd_same) ((ha.append ha2).same (same_upd nt)))
theorem GoodA.sub {n : Nat} {acts less : List Acty} (h : GoodA n acts) (hs : ∀ x ∈ less, x ∈ acts) (hl : less.length ≤ acts.length) : GoodA n less :=
  ⟨h.n20, Nat.le_trans hl h.most, fun a b d hm => h.ev a b d (hs _ hm)⟩
theorem ranked_sub {acts less : List Acty} (h : ∃ r, Ranked acts r) (hs : ∀ x ∈ less, x ∈ acts) : ∃ r, Ranked less r := by
  obtain ⟨r, h⟩ := h
  exact ⟨r, fun a b d hm => h a b d (hs _ hm)⟩
theorem isIndex_nat {m : Nat} {x : PyData} (h : isIndex m x = true) : ∃ k : Nat, x = .int k ∧ k < m := by
  cases x <;> simp [isIndex] at h
  rename_i i
  exact ⟨i.toNat, by congr 1; omega, by omega⟩
theorem index_iff {m k : Nat} (h : isIndex m (.int k) = true) : k < m := by
  simp [isIndex] at h
  omega
section
variable {K : PySem.W.Frag} {mg : Str → Option Value} (T : TX K mg) {vs : List V} {H : Hp} {Q : VK} {E : XK}
theorem rd_is_spare (h : sp_is_spare T vs H Q E) : t_is_spare T E (rtE Q) (start N_is_spare vs) H := by
  unfold t_is_spare; walk_at "n"
  obtain ⟨v, d, w, x, rfl, hd, hx, q1, q2⟩ := h
  refine ⟨_, rfl, v, d, rfl, hd, fun hp H1 s1 => ?_, fun hn => q2 hn⟩
  obtain ⟨n, acts, rfl, hv⟩ := hp
  obtain ⟨qa, qb⟩ := q1 n acts rfl hv
  obtain ⟨p, wa, rfl, hp, hw⟩ := eP_inv (hd.same s1)
  obtain ⟨pa, as, rfl, hsa, ha⟩ := hw.tup_inv
  have hla : as.length = acts.length := by rw [ha.length, List.length_map]
  refine ⟨_, rfl, p, _, rfl, hp, rfl, _, _, rfl, _, _, rfl, rfl, ?_⟩
  refine ⟨_, rfl, _, rfl, pa, as, rfl, .inr hsa, w, x, acts.length, by rw [hla]; rfl, hx.same s1, _, rfl, ?_⟩
  cases hix : isIndex acts.length x with
  | false =>
    refine iteT (raise_ (f := "given") (v := w) ((qb hix).same s1) fun Q q => ⟨_, rfl, q⟩)
  | true =>
    obtain ⟨k, rfl, hk⟩ := isIndex_nat hix
    cases hx.int_inv
    refine iteF ?_
    have hk' : k + 1 ≤ (acts.map eA).length := by rw [List.length_map]; omega
    refine ⟨_, rfl, _, rfl, _, rfl, k, rfl, take_ (ds := acts.map eA) (k := k) hw (by omega) fun H2 v2 s2 d2 => ?_⟩
    refine ⟨_, rfl, _, rfl, _, _, rfl, rfl, ((k + 1 : Nat) : Int), congrArg V.int (by omega), drop_ (ds := acts.map eA) (k := k + 1) (hw.same s2) hk' fun H3 v3 s3 d3 => ?_⟩
    refine cat_ (d2.same s3) d3 ?_ fun H4 v4 s4 d4 => ?_
    · have h1 : (120 : Nat) ≤ sizeLine := by decide
      have := hv.good.most
      rw [List.length_take, List.length_drop, List.length_map]
      omega
    have e1 : (acts.map eA).take k ++ (acts.map eA).drop (k + 1) = (acts.eraseIdx k).map eA := by
      rw [List.eraseIdx_eq_take_drop_succ, List.map_append, List.map_take, List.map_drop]
    rw [e1] at d4
    refine ⟨by show 2 ≤ sizeLine; decide, fun u nu => ?_⟩
    have s14 := (s2.trans s3).trans s4
    have sub : ∀ x ∈ acts.eraseIdx k, x ∈ acts := fun x hm => List.mem_of_mem_eraseIdx hm
    have lel : (acts.eraseIdx k).length ≤ acts.length := List.length_eraseIdx_le ..
    refine ⟨_, n, acts.eraseIdx k, rfl, .tup (.of upd_same) (.cons (.int _) (.cons (d4.same (same_upd nu)) .nil)), hv.good.sub sub lel, ranked_sub hv.rank sub, fun H5 v5 r1 s5 t1 d5 => ?_⟩
    have s15 := (s14.upd (o := .tup [V.int n, v4]) nu).trans s5
    refine ⟨_, rfl, _, n, acts, rfl, (hd.same s1).same s15, hv.good, hv.rank, fun H6 v6 r2 s6 t2 d6 => ?_⟩
    refine ⟨_, _, d5.same s6, d6, (sh_T r1).shaped (by decide), (sh_T r2).shaped (by decide), ?_⟩
    rw [eqv_T]
    exact qa k rfl hk r1 r2 t1 t2 H6 ((s1.trans s15).trans s6)
end
end A69
end

section
set_option maxRecDepth 100000
set_option maxHeartbeats 1000000
/-! SL69: what each def of the law promises. -/
namespace A69
open PySem PySem.Spec PyProof.Rows L2 KX MP

/-- the box that digits are taken of, k of them at most -/
def Box (H : Hp) (b : Addr) (k : Nat) : Prop := ∃ (x : Int) (g : Bool) (m : Int) (c : Nat), H b = some (.lst [.int x, .bl g, .int m, .int (c : Int)]) ∧ 0 ≤ m ∧ m < 2147483629 ∧ c ≤ k
def lim : Nat := 1000000
/-- data that _law_same may walk -/
def Small : Nat → PyData → Prop
  | 0, _ => False
  | n + 1, .list ds => ds.length ≤ 100000 ∧ ∀ x ∈ ds, Small n x
  | n + 1, .tuple ds => ds.length ≤ 100000 ∧ ∀ x ∈ ds, Small n x
  | _ + 1, .str x => x.length ≤ 1000
  | _ + 1, _ => True
/-- rows as lists, on the heap -/
structure HRows (H : Hp) (p : Addr) (ps : List Addr) (rows : List (List (Option Int))) : Prop where
  at_ : H p = some (.lst (ps.map V.ref))
  len : ps.length = rows.length
  row : ∀ (i : Nat) (q : Addr), ps[i]? = some q → ∀ r : List (Option Int), rows[i]? = some r → H q = some (.lst (r.map vO))
/-- from an earlier to a later event of an order -/
def Leads (order : List Nat) (x : Acty) : Prop := ∃ i j : Nat, i < j ∧ order[i]? = some x.1 ∧ order[j]? = some x.2.1 ∧ 0 ≤ x.2.2
/-- a list at hand that may grow -/
def Grow (K : PySem.W.Frag) (H H' : Hp) (w : V) (d : PyData) : Prop := isLst d = true → ∃ a xs ds, w = .ref a ∧ d = .list ds ∧ H a = none ∧ H' a = some (.lst xs) ∧ xs.length ≤ 1000 ∧ (∀ s u, xs ≠ [.str s, u]) ∧ ∀ H2 o, Same H' H2 → DpAll K (upd H2 a o) xs ds
section
variable {K : PySem.W.Frag} {mg : Str → Option Value}
def sp_law_cell (T : TX K mg) : Sp := fun vs H Q _ => ∃ (a : Addr) (ns : List Int) (k : Nat), vs = [.ref a, .int k] ∧ SqL K H a (ns.map V.int) ∧ k ≤ 10 ∧ ∀ H' i, Same H H' → Q (.int i) H'
def sp_law_box (T : TX K mg) : Sp := fun vs H Q _ => ∃ g : Int, vs = [.int g] ∧ ∀ H' b, Same H H' → H b = none → Box H' b 0 → Q (.ref b) H'
def sp_law_take (T : TX K mg) : Sp := fun vs H Q _ => ∃ (b : Addr) (n k : Nat), vs = [.ref b, .int n] ∧ Box H b k ∧ k < lim ∧ 1 ≤ n ∧ n ≤ 10000000 ∧ ∀ H' (r : Nat), But b H H' → Box H' b (k + 1) → r < n → Q (.int r) H'
def sp_law_mixed (T : TX K mg) : Sp := fun vs H Q _ => ∃ (b l : Addr) (is : List Nat) (k : Nat), vs = [.ref b, .ref l] ∧ SqL K H l (nats is) ∧ is.length ≤ 1000 ∧ Box H b k ∧ k + is.length ≤ lim ∧
  ∀ H' p fs, But b H H' → H p = none → H' p = some (.lst (nats fs)) → fs.Perm is → Box H' b (k + is.length) → Q (.ref p) H'
def sp_same (T : TX K mg) (lv : Nat) : Sp := fun vs H Q _ => ∃ v w d, vs = [v, w] ∧ Dp K H v d ∧ Dp K H w d ∧ Small lv d ∧ ∀ H', Same H H' → Q (.bl true) H'
def sp_law_times (T : TX K mg) : Sp := fun vs H Q _ => ∃ n v acts, vs = [.int (n : Nat), v] ∧ Dp K H v (eAs acts) ∧ GoodA n acts ∧ (∃ r, Ranked acts r) ∧
  ∀ H' p ps rows, Same H H' → HRows H' p ps rows → H p = none → (∀ q ∈ ps, H q = none) → IsTab n acts rows → Q (.ref p) H'
def sp_law_duration (T : TX K mg) : Sp := fun vs H Q _ => ∃ (b : Addr) (g : Bool) (k : Nat), vs = [.ref b, .bl g] ∧ Box H b k ∧ k + 7 ≤ lim ∧ ∀ H' d, But b H H' → Box H' b (k + 7) → 0 ≤ d → Q (.int d) H'
def sp_law_steps (T : TX K mg) : Sp := fun vs H Q _ => ∃ (b o : Addr) (order : List Nat) (count k : Nat) (g : Bool), vs = [.ref b, .ref o, .int count, .bl g] ∧ H o = some (.lst (nats order)) ∧ o ≠ b ∧ 2 ≤ order.length ∧ order.length ≤ 20 ∧ count ≤ 100 ∧ Box H b k ∧ k + 20 * count ≤ lim ∧
  ∀ H' p xs (acts : List Acty), But b H H' → H p = none → H' p = some (.lst xs) → DpAll K H' xs (acts.map eA) → acts.length = count → (∀ x ∈ acts, Leads order x) → Box H' b (k + 20 * count) → Q (.ref p) H'
def sp_law_plan (T : TX K mg) : Sp := fun vs H Q _ => ∃ (b : Addr) (wide great : Bool) (k : Nat), vs = [.ref b, .bl wide, .bl great] ∧ Box H b k ∧ k + 10000 ≤ lim ∧
  ∀ H' p v o n acts, But b H H' → H p = none → H' p = some (.lst [v, o]) → Dp K H' v (eP n acts) → Valid n acts → Box H' b (k + 10000) → Q (.ref p) H'
def sp_law_bad_plan (T : TX K mg) : Sp := fun vs H Q _ => ∃ (b : Addr) (v : V) (n : Nat) (acts : List Acty) (k : Nat), vs = [.ref b, v] ∧ Dp K H v (eP n acts) ∧ Valid n acts ∧ Box H b k ∧ k < lim ∧
  ∀ H' w d, But b H H' → Dp K H' w d → ¬ IsPlan d → Small 6 d → Grow K H H' w d → Box H' b (k + 1) → Q w H'
def sp_law_line (T : TX K mg) : Sp := fun vs H Q _ => ∃ (b : Addr) (k : Nat), vs = [.ref b] ∧ Box H b k ∧ k + 100 ≤ lim ∧ ∀ H' v n acts, But b H H' → Dp K H' v (eP n acts) → Valid n acts → Box H' b (k + 100) → Q v H'
def sp_law_even (T : TX K mg) : Sp := fun vs H Q _ => ∃ (b : Addr) (v : V) (n : Nat) (acts : List Acty) (k : Nat), vs = [.ref b, v] ∧ Dp K H v (eP n acts) ∧ Valid n acts ∧ Box H b k ∧ k + 100 ≤ lim ∧
  ∀ H' v' acts', But b H H' → Dp K H' v' (eP n acts') → Valid n acts' → Box H' b (k + 100) → Q v' H'
def sp_law_pairs (T : TX K mg) : Sp := fun vs H Q _ => ∃ p ps n rows, vs = [.ref p] ∧ HRows H p ps rows ∧ Square n rows ∧ n ≤ 20 ∧ ∀ H' q xs, Same H H' → H q = none → H' q = some (.lst xs) → DpAll K H' xs ((pairsR n rows).map e2) → Q (.ref q) H'
def sp_law_reduced (T : TX K mg) : Sp := fun vs H Q _ => ∃ v n acts, vs = [v] ∧ Dp K H v (eP n acts) ∧ Valid n acts ∧ ∀ H' v' rows, Same H H' → IsTab n acts rows → Dp K H' v' (eP n (redR n rows)) → Q v' H'
def sp_law_without (T : TX K mg) : Sp := fun vs H Q _ => ∃ (v : V) (n : Nat) (acts : List Acty) (k : Nat), vs = [v, .int k] ∧ Dp K H v (eP n acts) ∧ acts.length ≤ 120 ∧ k < acts.length ∧ ∀ H' v', Same H H' → Dp K H' v' (eP n (acts.eraseIdx k)) → Q v' H'
/-- what _law_asked tells: a word and a value -/
def Tells (H : Hp) (Q : VK) (x : Str) (ok : V → Hp → Prop) : Prop := ∀ H' p v, Same H H' → H' p = some (.lst [.str x, v]) → ok v H' → Q (.ref p) H'
def sp_law_asked (T : TX K mg) : Sp := fun vs H Q _ => ∃ (which turn : Int) (a : Addr) (xs : List V) (v : V) (d : PyData), vs = [.int which, .ref a, .int turn] ∧ SqL K H a xs ∧ xs[0]? = some v ∧ Dp K H v d ∧
  (¬ IsPlan d → Tells H Q "plan" fun u _ => u = v) ∧
  ((which = 0 ∧ ∀ n acts, d = eP n acts → Valid n acts → ∀ rows, IsTab n acts rows → ((closR n rows).length ≤ 120 → Tells H Q "told" fun u H' => Dp K H' u (eP n (closR n rows))) ∧ (120 < (closR n rows).length → Tells H Q "many" fun u _ => u = .int (closR n rows).length)) ∨
   (which = 1 ∧ ∀ n acts, d = eP n acts → Valid n acts → ∀ rows, IsTab n acts rows → Tells H Q "told" fun u H' => Dp K H' u (eP n (redR n rows))) ∨
   (which = 2 ∧ ∃ w x, xs[1]? = some w ∧ Dp K H w x ∧ ∀ n acts, d = eP n acts → Valid n acts → (∀ k : Nat, x = .int k → k < acts.length → ∀ r1 r2, IsTab n (acts.eraseIdx k) r1 → IsTab n acts r2 → Tells H Q "told" fun u _ => u = .bl (decide (r1 = r2))) ∧
      (isIndex acts.length x = false → Tells H Q "activity" fun u _ => u = w)))
def sp_law_plan_right (T : TX K mg) : Sp := fun vs H Q _ => ∃ (b : Addr) (v w : V) (n m : Nat) (acts bcts : List Acty) (turn : Int) (k : Nat), vs = [.ref b, v, w, .int turn] ∧ Dp K H v (eP n acts) ∧ Valid n acts ∧ Dp K H w (eP m bcts) ∧ Valid m bcts ∧ Box H b k ∧ k + 3 ≤ lim ∧
  ∀ H', But b H H' → Box H' b (k + 3) → Q (.bl true) H'
def sp_law_spare_right (T : TX K mg) : Sp := fun vs H Q _ => ∃ (b : Addr) (v : V) (n : Nat) (acts : List Acty) (turn : Int) (k : Nat), vs = [.ref b, v, .int turn] ∧ Dp K H v (eP n acts) ∧ Valid n acts ∧ Box H b k ∧ k + 1000 ≤ lim ∧
  ∀ H', But b H H' → Box H' b (k + 1000) → Q (.bl true) H'
def sp_law_refused_right (T : TX K mg) : Sp := fun vs H Q _ => ∃ (b : Addr) (v : V) (n : Nat) (acts : List Acty) (turn : Int) (k : Nat), vs = [.ref b, v, .int turn] ∧ Dp K H v (eP n acts) ∧ Valid n acts ∧ Box H b k ∧ k + 1000 ≤ lim ∧
  ∀ H', But b H H' → Q (.bl true) H'
def sp_law (T : TX K mg) : Sp := fun vs H Q _ => ∃ (a : Addr) (ns : List Int), vs = [.ref a] ∧ SqL K H a (ns.map V.int) ∧ ∀ H', Q (.bl true) H'
end
end A69
end

section
set_option maxRecDepth 100000
set_option maxHeartbeats 4000000
/-! DL69: defs as terms. Printed by gen.py. -/
namespace A69
open PySem PySem.Spec PyProof.Rows L2 KX MP
section
variable {P : Program} {w : World} {K : PySem.W.Frag} {mg : Str → Option Value} {base : Heap}
/-! _law_cell: level 1; slots 0 script 1 k -/
def t_law_cell (T : TX K mg) : TS := (tRet (tIf (tTest (tOp rLtI (tVar 1) (tCB (rLenSeq K) (tCons (tVar 0) tNil)))) (tOp (rIxL K) (tVar 0) (tVar 1)) (tOp rAddI (tOp rMulW (tC (.int 8231)) (tVar 1)) (tOp rModN (tCB rInt1 (tCons (tCB (rSum K) (tCons (tSl (rSlL K) (tVar 0) tNoPart (tPart (tC (.int 1)))) tNil)) tNil)) (tC (.int 1000003))))))
theorem d_law_cell (T : TX K mg) {cdv : Value} {A : Around} {outer : List Env} {s : Shared} {H : Hp} {E : XK} (hr : Room (0) (A.deeper (envOfC "_law_cell" (defScope s_law_cell) s.heap.objs.size T.f_law_cell cdv))) :
    PSs (cxOf CX0 P w K mg base N_law_cell "_law_cell" (defScope s_law_cell) T.f_law_cell cdv A outer s H E).nox (defBody s_law_cell) (t_law_cell T) := by
  have hu0 := hr.units0
  have hu64 := hr.units
  have hu65 : (A.deeper (envOfC "_law_cell" (defScope s_law_cell) s.heap.objs.size T.f_law_cell cdv)).units + 65 < cLine := by have := hr.un; omega
  exact (pss_one (ps_ret (pe_ifExp (pt_cmpR op_lt (pv 1) (pe_callB call_len_seq (by rfl) T.z_len (by decide +kernel) (pa_cons (pv 0) pa_nil)) (nomark _)) (pe_ix ix_list (pv 0) (pv 1) (fun _ _ => rfl)) (pe_op op_add (pe_op op_mulW pe_int (pv 1)) (pe_op op_modN (pe_callTy call_int1 (by rfl) T.z_int (by decide +kernel) (pa_cons (pe_callB (cr_sum rfl) (by rfl) T.z_sum (by decide +kernel) (pa_cons (pe_slice sl_list (pv 0) po_none (po_some pe_int)) pa_nil)) pa_nil)) pe_int)))))
/-! _law_box: level 1; slots 0 great -/
def t_law_box (T : TX K mg) : TS := (tRet (tLst (tCons (tCB rAbsI (tCons (tVar 0) tNil)) (tCons (tOp rGeI (tCB rAbsI (tCons (tVar 0) tNil)) (tOp rPow (tC (.int 10)) (tC (.int 18)))) (tCons (tOp rModN (tCB rInt1 (tCons (tCB rAbsI (tCons (tVar 0) tNil)) tNil)) (tC (.int 2147483629))) (tCons (tC (.int 0)) tNil))))))
theorem d_law_box (T : TX K mg) {cdv : Value} {A : Around} {outer : List Env} {s : Shared} {H : Hp} {E : XK} (hr : Room (0) (A.deeper (envOfC "_law_box" (defScope s_law_box) s.heap.objs.size T.f_law_box cdv))) :
    PSs (cxOf CX0 P w K mg base N_law_box "_law_box" (defScope s_law_box) T.f_law_box cdv A outer s H E).nox (defBody s_law_box) (t_law_box T) := by
  have hu0 := hr.units0
  have hu64 := hr.units
  have hu65 : (A.deeper (envOfC "_law_box" (defScope s_law_box) s.heap.objs.size T.f_law_box cdv)).units + 65 < cLine := by have := hr.un; omega
  exact (pss_one (ps_ret (pe_lst (pa_cons (pe_callB call_abs (by rfl) T.z_abs (by decide +kernel) (pa_cons (pv 0) pa_nil)) (pa_cons (pe_cmpR op_ge (pe_callB call_abs (by rfl) T.z_abs (by decide +kernel) (pa_cons (pv 0) pa_nil)) (pe_op op_pow pe_int pe_int) (nomark _)) (pa_cons (pe_op op_modN (pe_callTy call_int1 (by rfl) T.z_int (by decide +kernel) (pa_cons (pe_callB call_abs (by rfl) T.z_abs (by decide +kernel) (pa_cons (pv 0) pa_nil)) pa_nil)) pe_int) (pa_cons pe_int pa_nil)))))))
/-! _law_take: level 1; slots 0 box 1 many 2 mixed 3 digit -/
def t_law_take (T : TX K mg) : TS := (tSeq (tIfS (tAnd (tB (tOp (rIxL K) (tVar 0) (tC (.int 1)))) (tTest (tOp rGtI (tOp (rIxL K) (tVar 0) (tC (.int 0))) (tC (.int 0))))) (tSeq (tAsg (tOp rModN (tCB rInt1 (tCons (tOp (rIxL K) (tVar 0) (tC (.int 0))) tNil)) (tVar 1)) (gName 3))
  (tSeq (tAsg (tOp rDivW (tOp (rIxL K) (tVar 0) (tC (.int 0))) (tVar 1)) (gSub (tVar 0) (tC (.int 0)) rSetL))
  (tRet (tVar 3)))) tNext)
  (tSeq (tAsg (tOp rAddI (tOp (rIxL K) (tVar 0) (tC (.int 3))) (tC (.int 1))) (gSub (tVar 0) (tC (.int 3)) rSetL))
  (tSeq (tAsg (tOp rModN (tCB rInt1 (tCons (tOp rPow (tOp rAddI (tOp rAddI (tOp (rIxL K) (tVar 0) (tC (.int 2))) (tOp rMulW (tC (.int 15486377)) (tOp (rIxL K) (tVar 0) (tC (.int 3))))) (tC (.int 179425171))) (tC (.int 5))) tNil)) (tC (.int 2147483647))) (gName 2))
  (tRet (tOp rModN (tCB rInt1 (tCons (tOp rDivW (tOp rModN (tCB rInt1 (tCons (tOp rPow (tOp rAddI (tOp rMulW (tVar 2) (tC (.int 48271))) (tOp rMulW (tC (.int 7919)) (tOp (rIxL K) (tVar 0) (tC (.int 3))))) (tC (.int 3))) tNil)) (tC (.int 2147483587))) (tC (.int 64))) tNil)) (tVar 1))))))
theorem d_law_take (T : TX K mg) {cdv : Value} {A : Around} {outer : List Env} {s : Shared} {H : Hp} {E : XK} (hr : Room (0) (A.deeper (envOfC "_law_take" (defScope s_law_take) s.heap.objs.size T.f_law_take cdv))) :
    PSs (cxOf CX0 P w K mg base N_law_take "_law_take" (defScope s_law_take) T.f_law_take cdv A outer s H E).nox (defBody s_law_take) (t_law_take T) := by
  have hu0 := hr.units0
  have hu64 := hr.units
  have hu65 : (A.deeper (envOfC "_law_take" (defScope s_law_take) s.heap.objs.size T.f_law_take cdv)).units + 65 < cLine := by have := hr.un; omega
  exact (pss_cons (ps_if (PW.pt (pw_and (pt_val (pe_ix ix_list (pv 0) pe_int (fun _ _ => rfl))) (pw_and1 (pt_cmpR op_gt (pe_ix ix_list (pv 0) pe_int (fun _ _ => rfl)) pe_int (nomark _))))) (pss_cons (ps_set (i := 3) sc_law_take.nd rfl (Or.inl rfl) (pe_op op_modN (pe_callTy call_int1 (by rfl) T.z_int (by decide +kernel) (pa_cons (pe_ix ix_list (pv 0) pe_int (fun _ _ => rfl)) pa_nil)) (pv 1)))
  (pss_cons (ps_asg (pe_op op_fdivW (pe_ix ix_list (pv 0) pe_int (fun _ _ => rfl)) (pv 1)) (pg_sub (pv 0) pe_int set_list))
  (pss_one (ps_ret (pv 3))))) pss_nil)
  (pss_cons (ps_asg (pe_op op_add (pe_ix ix_list (pv 0) pe_int (fun _ _ => rfl)) pe_int) (pg_sub (pv 0) pe_int set_list))
  (pss_cons (ps_set (i := 2) sc_law_take.nd rfl (Or.inl rfl) (pe_op op_modN (pe_callTy call_int1 (by rfl) T.z_int (by decide +kernel) (pa_cons (pe_op op_pow (pe_op op_add (pe_op op_add (pe_ix ix_list (pv 0) pe_int (fun _ _ => rfl)) (pe_op op_mulW pe_int (pe_ix ix_list (pv 0) pe_int (fun _ _ => rfl)))) pe_int) pe_int) pa_nil)) pe_int))
  (pss_one (ps_ret (pe_op op_modN (pe_callTy call_int1 (by rfl) T.z_int (by decide +kernel) (pa_cons (pe_op op_fdivW (pe_op op_modN (pe_callTy call_int1 (by rfl) T.z_int (by decide +kernel) (pa_cons (pe_op op_pow (pe_op op_add (pe_op op_mulW (pv 2) pe_int) (pe_op op_mulW pe_int (pe_ix ix_list (pv 0) pe_int (fun _ _ => rfl)))) pe_int) pa_nil)) pe_int) pe_int) pa_nil)) (pv 1)))))))
/-! _law_mixed: level 2; slots 0 box 1 items 2 left 3 found -/
def t_law_mixed (T : TX K mg) : TS := (tSeq (tPar 2 3 (tCons (tCB (rListOf K) (tCons (tVar 1) tNil)) (tCons (tLst tNil) tNil)))
  (tSeq (tWhile (tTest (tOp (rNeD K) (tVar 2) (tLst tNil))) (tDrop (tBM K "list" rAppend (tVar 3) (tCons (tBM K "list" rPopAt (tVar 2) (tCons (tCall (sp_law_take T) [] E0 (tCons (tVar 0) (tCons (tCB (rLenSeq K) (tCons (tVar 2) tNil)) tNil))) tNil)) tNil))))
  (tRet (tVar 3))))
theorem d_law_mixed (T : TX K mg) (G_law_take : FnOk P w K mg base CX0 1 T.f_law_take T.fd_law_take ["box", "many"] (sp_law_take T)) {cdv : Value} {A : Around} {outer : List Env} {s : Shared} {H : Hp} {E : XK} (hr : Room (1) (A.deeper (envOfC "_law_mixed" (defScope s_law_mixed) s.heap.objs.size T.f_law_mixed cdv))) :
    PSs (cxOf CX0 P w K mg base N_law_mixed "_law_mixed" (defScope s_law_mixed) T.f_law_mixed cdv A outer s H E).nox (defBody s_law_mixed) (t_law_mixed T) := by
  have hu0 := hr.units0
  have hu64 := hr.units
  have hu65 : (A.deeper (envOfC "_law_mixed" (defScope s_law_mixed) s.heap.objs.size T.f_law_mixed cdv)).units + 65 < cLine := by have := hr.un; omega
  exact (pss_cons (ps_par (i := 2) (j := 3) rfl sc_law_mixed.nd rfl rfl (by decide) rfl rfl (pa_cons (pe_callTy call_list_of (by rfl) T.z_list (by decide +kernel) (pa_cons (pv 1) pa_nil)) (pa_cons (pe_lst pa_nil) pa_nil)) (by rfl))
  (pss_cons (ps_while PassesOwn.never (pt_cmpR (op_neD hu64) (pv 2) (pe_lst pa_nil) (nomark _)) (pss_one (ps_expr (pe_bm PySem.F.plainAttrs_list PySem.F.slot_list_append PySem.F.type_list_append mt_append (pv 3) (pa_cons (pe_bm PySem.F.plainAttrs_list PySem.F.slot_list_pop PySem.F.type_list_pop mt_popAt (pv 2) (pa_cons (pe_call G_law_take (hr.mono (by decide)) (by rfl) T.g_law_take T.F_law_take.kp T.b_law_take .nil pass0 (pa_cons (pv 0) (pa_cons (pe_callB call_len_seq (by rfl) T.z_len (by decide +kernel) (pa_cons (pv 2) pa_nil)) pa_nil))) pa_nil)) pa_nil)))))
  (pss_one (ps_ret (pv 3)))))
/-! _law_same: level 8; slots 0 given 1 due 2 k -/
def t_law_same (T : TX K mg) (lv : Nat) : TS := (tSeq (tIfS (tOr (tTest (tOp rIsN (tVar 1) (tC .non))) (tB (tCB (rIsi K) (tCons (tVar 1) (tCons (tC (.ty "bool")) tNil))))) (tRet (tIf (tTest (tOp rIsN (tVar 1) (tC .non))) (tOp rIsN (tVar 0) (tC .non)) (tAndV (tCB (rIsi K) (tCons (tVar 0) (tCons (tC (.ty "bool")) tNil))) (tOp rEq (tOp rIsBl (tVar 0) (tC (.bl true))) (tOp rIsBl (tVar 1) (tC (.bl true))))))) tNext)
  (tSeq (tIfS (tB (tCB (rIsi K) (tCons (tVar 1) (tCons (tC (.ty "int")) tNil)))) (tRet (tAndV (tCB (rIsi K) (tCons (tVar 0) (tCons (tC (.ty "int")) tNil))) (tAndV (tNotV (tCB (rIsi K) (tCons (tVar 0) (tCons (tC (.ty "bool")) tNil)))) (tOp rEq (tOp rSubI (tCB rInt1 (tCons (tVar 0) tNil)) (tVar 1)) (tC (.int 0)))))) tNext)
  (tSeq (tIfS (tB (tCB (rIsi K) (tCons (tVar 1) (tCons (tC (.ty "str")) tNil)))) (tRet (tAndV (tCB (rIsi K) (tCons (tVar 0) (tCons (tC (.ty "str")) tNil))) (tAndV (tOp rEq (tCB (rLen K) (tCons (tVar 0) tNil)) (tCB (rLen K) (tCons (tVar 1) tNil))) (tOp (rEqD K) (tLc (iRng1 (tCons (tCB (rLen K) (tCons (tVar 1) tNil)) tNil)) (gName 2) (tTest (tOp rNe (tSl rSlS (tVar 0) (tPart (tVar 2)) (tPart (tOp rAddI (tVar 2) (tC (.int 1))))) (tOp (rIx K) (tVar 1) (tVar 2)))) (tVar 2) [2]) (tLst tNil))))) tNext)
  (tSeq (tIfS (tOr (tTest (tOp rNe (tCB (rIsi K) (tCons (tVar 0) (tCons (tC (.ty "list")) tNil))) (tCB (rIsi K) (tCons (tVar 1) (tCons (tC (.ty "list")) tNil))))) (tTest (tOp rNe (tCB (rIsi K) (tCons (tVar 0) (tCons (tC (.ty "tuple")) tNil))) (tCB (rIsi K) (tCons (tVar 1) (tCons (tC (.ty "tuple")) tNil)))))) (tRet (tC (.bl false))) tNext)
  (tRet (tAndV (tOp rEq (tCB (rLen K) (tCons (tVar 0) tNil)) (tCB (rLen K) (tCons (tVar 1) tNil))) (tOp (rEqD K) (tLc (iRng1 (tCons (tCB (rLen K) (tCons (tVar 1) tNil)) tNil)) (gName 2) (tNot (tB (tCall (sp_same T lv) [] E0 (tCons (tOp (rIx K) (tVar 0) (tVar 2)) (tCons (tOp (rIx K) (tVar 1) (tVar 2)) tNil))))) (tVar 2) [2]) (tLst tNil))))))))
theorem d_law_same (T : TX K mg) (lv : Nat) (G_law_same : FnOk P w K mg base CX0 lv T.f_law_same T.fd_law_same ["given", "due"] (sp_same T lv)) {cdv : Value} {A : Around} {outer : List Env} {s : Shared} {H : Hp} {E : XK} (hr : Room (lv) (A.deeper (envOfC "_law_same" (defScope s_law_same) s.heap.objs.size T.f_law_same cdv))) :
    PSs (cxOf CX0 P w K mg base N_law_same "_law_same" (defScope s_law_same) T.f_law_same cdv A outer s H E).nox (defBody s_law_same) (t_law_same T lv) := by
  have hu0 := hr.units0
  have hu64 := hr.units
  have hu65 : (A.deeper (envOfC "_law_same" (defScope s_law_same) s.heap.objs.size T.f_law_same cdv)).units + 65 < cLine := by have := hr.un; omega
  exact (pss_cons (ps_if (PW.pt (pw_or (pt_cmpR op_isN (pv 1) pe_non (nomark _)) (pw_or1 (pt_val (pe_callB call_isi (by rfl) T.z_isinstance (by decide +kernel) (pa_cons (pv 1) (pa_cons (pe_bltn (v := .ty "bool") (by rfl) T.z_bool (by decide +kernel) rfl) pa_nil))))))) (pss_one (ps_ret (pe_ifExp (pt_cmpR op_isN (pv 1) pe_non (nomark _)) (pe_cmpR op_isN (pv 0) pe_non (nomark _)) (pe_and (pe_callB call_isi (by rfl) T.z_isinstance (by decide +kernel) (pa_cons (pv 0) (pa_cons (pe_bltn (v := .ty "bool") (by rfl) T.z_bool (by decide +kernel) rfl) pa_nil))) (pe_one (pe_cmpR op_eq (pe_cmpR op_is_bl (pv 0) pe_bl (nomark _)) (pe_cmpR op_is_bl (pv 1) pe_bl (nomark _)) (nomark _))))))) pss_nil)
  (pss_cons (ps_if (pt_val (pe_callB call_isi (by rfl) T.z_isinstance (by decide +kernel) (pa_cons (pv 1) (pa_cons (pe_bltn (v := .ty "int") (by rfl) T.z_int (by decide +kernel) rfl) pa_nil)))) (pss_one (ps_ret (pe_and (pe_callB call_isi (by rfl) T.z_isinstance (by decide +kernel) (pa_cons (pv 0) (pa_cons (pe_bltn (v := .ty "int") (by rfl) T.z_int (by decide +kernel) rfl) pa_nil))) (pe_and (pe_not (pe_callB call_isi (by rfl) T.z_isinstance (by decide +kernel) (pa_cons (pv 0) (pa_cons (pe_bltn (v := .ty "bool") (by rfl) T.z_bool (by decide +kernel) rfl) pa_nil)))) (pe_one (pe_cmpR op_eq (pe_op op_sub (pe_callTy call_int1 (by rfl) T.z_int (by decide +kernel) (pa_cons (pv 0) pa_nil)) (pv 1)) pe_int (nomark _))))))) pss_nil)
  (pss_cons (ps_if (pt_val (pe_callB call_isi (by rfl) T.z_isinstance (by decide +kernel) (pa_cons (pv 1) (pa_cons (pe_bltn (v := .ty "str") (by rfl) T.z_str (by decide +kernel) rfl) pa_nil)))) (pss_one (ps_ret (pe_and (pe_callB call_isi (by rfl) T.z_isinstance (by decide +kernel) (pa_cons (pv 0) (pa_cons (pe_bltn (v := .ty "str") (by rfl) T.z_str (by decide +kernel) rfl) pa_nil))) (pe_and (pe_cmpR op_eq (pe_callB call_len (by rfl) T.z_len (by decide +kernel) (pa_cons (pv 0) pa_nil)) (pe_callB call_len (by rfl) T.z_len (by decide +kernel) (pa_cons (pv 1) pa_nil)) (nomark _)) (pe_one (pe_cmpR (op_eqD hu64) (pe_lc (own := [("k", 2)]) rfl sc_law_same.nd (pi_range1 (by rfl) T.z_range (pa_cons (pe_callB call_len (by rfl) T.z_len (by decide +kernel) (pa_cons (pv 1) pa_nil)) pa_nil)) (blkOk_by (own := [("k", 2)]) (N := N_law_same) (sc := defScope s_law_same) (by decide +kernel)) (fun _ _ _ _ _ => (pg_name (i := 2) sc_law_same.nd rfl (Or.inl rfl))) (fun _ _ _ _ _ => (pts_one (pt_cmpR op_ne (pe_slice sl_str (pv 0) (po_some (pv 2)) (po_some (pe_op op_add (pv 2) pe_int))) (pe_ix ix_seq (pv 1) (pv 2) (fun _ _ => rfl)) (nomark _)))) (fun _ _ _ _ _ => (pv 2))) (pe_lst pa_nil) (nomark _))))))) pss_nil)
  (pss_cons (ps_if (PW.pt (pw_or (pt_cmpR op_ne (pe_callB call_isi (by rfl) T.z_isinstance (by decide +kernel) (pa_cons (pv 0) (pa_cons (pe_bltn (v := .ty "list") (by rfl) T.z_list (by decide +kernel) rfl) pa_nil))) (pe_callB call_isi (by rfl) T.z_isinstance (by decide +kernel) (pa_cons (pv 1) (pa_cons (pe_bltn (v := .ty "list") (by rfl) T.z_list (by decide +kernel) rfl) pa_nil))) (nomark _)) (pw_or1 (pt_cmpR op_ne (pe_callB call_isi (by rfl) T.z_isinstance (by decide +kernel) (pa_cons (pv 0) (pa_cons (pe_bltn (v := .ty "tuple") (by rfl) T.z_tuple (by decide +kernel) rfl) pa_nil))) (pe_callB call_isi (by rfl) T.z_isinstance (by decide +kernel) (pa_cons (pv 1) (pa_cons (pe_bltn (v := .ty "tuple") (by rfl) T.z_tuple (by decide +kernel) rfl) pa_nil))) (nomark _))))) (pss_one (ps_ret pe_bl)) pss_nil)
  (pss_one (ps_ret (pe_and (pe_cmpR op_eq (pe_callB call_len (by rfl) T.z_len (by decide +kernel) (pa_cons (pv 0) pa_nil)) (pe_callB call_len (by rfl) T.z_len (by decide +kernel) (pa_cons (pv 1) pa_nil)) (nomark _)) (pe_one (pe_cmpR (op_eqD hu64) (pe_lc (own := [("k", 2)]) rfl sc_law_same.nd (pi_range1 (by rfl) T.z_range (pa_cons (pe_callB call_len (by rfl) T.z_len (by decide +kernel) (pa_cons (pv 1) pa_nil)) pa_nil)) (blkOk_by (own := [("k", 2)]) (N := N_law_same) (sc := defScope s_law_same) (by decide +kernel)) (fun _ _ _ _ _ => (pg_name (i := 2) sc_law_same.nd rfl (Or.inl rfl))) (fun _ _ _ _ _ => (pts_one (pt_not (pt_val (pe_call G_law_same (hr.mono (Nat.le_refl _)) (by rfl) T.g_law_same T.F_law_same.kp T.b_law_same .nil pass0 (pa_cons (pe_ix ix_seq (pv 0) (pv 2) (fun _ _ => rfl)) (pa_cons (pe_ix ix_seq (pv 1) (pv 2) (fun _ _ => rfl)) pa_nil))))))) (fun _ _ _ _ _ => (pv 2))) (pe_lst pa_nil) (nomark _))))))))))
/-! _law_times: level 1; slots 0 many 1 activities 2 rows 3 by 4 a 5 b 6 duration 7 row 8 at 9 some -/
def t_law_times (T : TX K mg) : TS := (tSeq (tAsg (tLc (iRng1 (tCons (tVar 0) tNil)) (gName 4) tYes (tLc (iRng1 (tCons (tVar 0) tNil)) (gName 5) tYes (tIf (tTest (tOp rEq (tVar 4) (tVar 5))) (tC (.int 0)) (tC .non)) [5]) [4]) (gName 2))
  (tSeq (tFor (iTup K (tVar 1)) (gTup K 3 (gCons (gName 4) (gCons (gName 5) (gCons (gName 6) gNil)))) (tIfS (tOr (tTest (tOp rIsN (tOp (rIxL K) (tOp (rIxL K) (tVar 2) (tVar 4)) (tVar 5)) (tC .non))) (tTest (tOp rGtI (tVar 6) (tOp (rIxL K) (tOp (rIxL K) (tVar 2) (tVar 4)) (tVar 5))))) (tAsg (tVar 6) (gSub (tOp (rIxL K) (tVar 2) (tVar 4)) (tVar 5) rSetL)) tNext))
  (tSeq (tFor (iRng1 (tCons (tVar 0) tNil)) (gName 3) (tFor (iList K (tVar 2)) (gName 7) (tFor (iRng1 (tCons (tVar 0) tNil)) (gName 8) (tIfS (tAnd (tTest (tOp rNotN (tOp (rIxL K) (tVar 7) (tVar 3)) (tC .non))) (tTest (tOp rNotN (tOp (rIxL K) (tOp (rIxL K) (tVar 2) (tVar 3)) (tVar 8)) (tC .non)))) (tSeq (tAsg (tOp rAddI (tOp (rIxL K) (tVar 7) (tVar 3)) (tOp (rIxL K) (tOp (rIxL K) (tVar 2) (tVar 3)) (tVar 8))) (gName 9))
  (tIfS (tOr (tTest (tOp rIsN (tOp (rIxL K) (tVar 7) (tVar 8)) (tC .non))) (tTest (tOp rGtI (tVar 9) (tOp (rIxL K) (tVar 7) (tVar 8))))) (tAsg (tVar 9) (gSub (tVar 7) (tVar 8) rSetL)) tNext)) tNext))))
  (tRet (tVar 2)))))
theorem d_law_times (T : TX K mg) {cdv : Value} {A : Around} {outer : List Env} {s : Shared} {H : Hp} {E : XK} (hr : Room (0) (A.deeper (envOfC "_law_times" (defScope s_law_times) s.heap.objs.size T.f_law_times cdv))) :
    PSs (cxOf CX0 P w K mg base N_law_times "_law_times" (defScope s_law_times) T.f_law_times cdv A outer s H E).nox (defBody s_law_times) (t_law_times T) := by
  have hu0 := hr.units0
  have hu64 := hr.units
  have hu65 : (A.deeper (envOfC "_law_times" (defScope s_law_times) s.heap.objs.size T.f_law_times cdv)).units + 65 < cLine := by have := hr.un; omega
  exact (pss_cons (ps_setLc (i := 2) (own := [("a", 4)]) rfl sc_law_times.nd rfl rfl (sw_true rfl rfl rfl (by decide +kernel)) (pi_range1 (by rfl) T.z_range (pa_cons (pv 0) pa_nil)) (blkOk_by (own := [("a", 4)]) (N := N_law_times) (sc := defScope s_law_times) (by decide +kernel)) (fun _ _ _ _ _ => (pg_name (i := 4) sc_law_times.nd rfl (Or.inr rfl))) (fun _ _ _ _ _ => pts_nil) (fun _ _ _ _ _ => (pe_lc (own := [("b", 5)]) rfl sc_law_times.nd (pi_range1 (by rfl) T.z_range (pa_cons (pv 0) pa_nil)) (blkOk_by (own := [("b", 5)]) (by rfl)) (fun _ _ _ _ _ => (pg_name (i := 5) sc_law_times.nd rfl (Or.inl rfl))) (fun _ _ _ _ _ => pts_nil) (fun _ _ _ _ _ => (pe_ifExp (pt_cmpR op_eq (pv 4) (pv 5) (nomark _)) pe_int pe_non)))))
  (pss_cons (ps_for PassesOwn.never rfl (pi_tup (pv 1)) (pg_tup rfl (pgs_cons (pg_name (i := 4) sc_law_times.nd rfl (Or.inl rfl)) (pgs_cons (pg_name (i := 5) sc_law_times.nd rfl (Or.inl rfl)) (pgs_cons (pg_name (i := 6) sc_law_times.nd rfl (Or.inl rfl)) pgs_nil)))) (pss_one (ps_if (PW.pt (pw_or (pt_cmpR op_isN (pe_ix ix_list (pe_ix ix_list (pv 2) (pv 4) (fun _ _ => rfl)) (pv 5) (fun _ _ => rfl)) pe_non (nomark _)) (pw_or1 (pt_cmpR op_gt (pv 6) (pe_ix ix_list (pe_ix ix_list (pv 2) (pv 4) (fun _ _ => rfl)) (pv 5) (fun _ _ => rfl)) (nomark _))))) (pss_one (ps_asg (pv 6) (pg_sub (pe_ix ix_list (pv 2) (pv 4) (fun _ _ => rfl)) (pv 5) set_list))) pss_nil)))
  (pss_cons (ps_for PassesOwn.never rfl (pi_range1 (by rfl) T.z_range (pa_cons (pv 0) pa_nil)) (pg_name (i := 3) sc_law_times.nd rfl (Or.inl rfl)) (pss_one (ps_for PassesOwn.never rfl (pi_list (pv 2)) (pg_name (i := 7) sc_law_times.nd rfl (Or.inl rfl)) (pss_one (ps_for PassesOwn.never rfl (pi_range1 (by rfl) T.z_range (pa_cons (pv 0) pa_nil)) (pg_name (i := 8) sc_law_times.nd rfl (Or.inl rfl)) (pss_one (ps_if (PW.pt (pw_and (pt_cmpR op_notN (pe_ix ix_list (pv 7) (pv 3) (fun _ _ => rfl)) pe_non (nomark _)) (pw_and1 (pt_cmpR op_notN (pe_ix ix_list (pe_ix ix_list (pv 2) (pv 3) (fun _ _ => rfl)) (pv 8) (fun _ _ => rfl)) pe_non (nomark _))))) (pss_cons (ps_set (i := 9) sc_law_times.nd rfl (Or.inl rfl) (pe_op op_add (pe_ix ix_list (pv 7) (pv 3) (fun _ _ => rfl)) (pe_ix ix_list (pe_ix ix_list (pv 2) (pv 3) (fun _ _ => rfl)) (pv 8) (fun _ _ => rfl))))
  (pss_one (ps_if (PW.pt (pw_or (pt_cmpR op_isN (pe_ix ix_list (pv 7) (pv 8) (fun _ _ => rfl)) pe_non (nomark _)) (pw_or1 (pt_cmpR op_gt (pv 9) (pe_ix ix_list (pv 7) (pv 8) (fun _ _ => rfl)) (nomark _))))) (pss_one (ps_asg (pv 9) (pg_sub (pv 7) (pv 8) set_list))) pss_nil))) pss_nil)))))))
  (pss_one (ps_ret (pv 2))))))
/-! _law_duration: level 2; slots 0 box 1 great -/
def t_law_duration (T : TX K mg) : TS := (tSeq (tIfS (tAnd (tB (tVar 1)) (tTest (tOp rEq (tCall (sp_law_take T) [] E0 (tCons (tVar 0) (tCons (tC (.int 2)) tNil))) (tC (.int 0))))) (tRet (tOp rAddI (tOp rPowB (tOp rPowB (tC (.int 10)) (tC (.int 60))) (tC (.int 4))) (tCall (sp_law_take T) [] E0 (tCons (tVar 0) (tCons (tOp rPow (tC (.int 10)) (tC (.int 6))) tNil))))) tNext)
  (tRet (tOp (rIxL K) (tLst (tCons (tC (.int 0)) (tCons (tC (.int 1)) (tCons (tCall (sp_law_take T) [] E0 (tCons (tVar 0) (tCons (tC (.int 4)) tNil))) (tCons (tOp rAddI (tC (.int 1)) (tCall (sp_law_take T) [] E0 (tCons (tVar 0) (tCons (tC (.int 9)) tNil)))) (tCons (tCall (sp_law_take T) [] E0 (tCons (tVar 0) (tCons (tC (.int 40)) tNil))) tNil)))))) (tCall (sp_law_take T) [] E0 (tCons (tVar 0) (tCons (tC (.int 5)) tNil))))))
theorem d_law_duration (T : TX K mg) (G_law_take : FnOk P w K mg base CX0 1 T.f_law_take T.fd_law_take ["box", "many"] (sp_law_take T)) {cdv : Value} {A : Around} {outer : List Env} {s : Shared} {H : Hp} {E : XK} (hr : Room (1) (A.deeper (envOfC "_law_duration" (defScope s_law_duration) s.heap.objs.size T.f_law_duration cdv))) :
    PSs (cxOf CX0 P w K mg base N_law_duration "_law_duration" (defScope s_law_duration) T.f_law_duration cdv A outer s H E).nox (defBody s_law_duration) (t_law_duration T) := by
  have hu0 := hr.units0
  have hu64 := hr.units
  have hu65 : (A.deeper (envOfC "_law_duration" (defScope s_law_duration) s.heap.objs.size T.f_law_duration cdv)).units + 65 < cLine := by have := hr.un; omega
  exact (pss_cons (ps_if (PW.pt (pw_and (pt_val (pv 1)) (pw_and1 (pt_cmpR op_eq (pe_call G_law_take (hr.mono (by decide)) (by rfl) T.g_law_take T.F_law_take.kp T.b_law_take .nil pass0 (pa_cons (pv 0) (pa_cons pe_int pa_nil))) pe_int (nomark _))))) (pss_one (ps_ret (pe_op op_add (pe_op op_powB (pe_op op_powB pe_int pe_int) pe_int) (pe_call G_law_take (hr.mono (by decide)) (by rfl) T.g_law_take T.F_law_take.kp T.b_law_take .nil pass0 (pa_cons (pv 0) (pa_cons (pe_op op_pow pe_int pe_int) pa_nil)))))) pss_nil)
  (pss_one (ps_ret (pe_ix ix_list (pe_lst (pa_cons pe_int (pa_cons pe_int (pa_cons (pe_call G_law_take (hr.mono (by decide)) (by rfl) T.g_law_take T.F_law_take.kp T.b_law_take .nil pass0 (pa_cons (pv 0) (pa_cons pe_int pa_nil))) (pa_cons (pe_op op_add pe_int (pe_call G_law_take (hr.mono (by decide)) (by rfl) T.g_law_take T.F_law_take.kp T.b_law_take .nil pass0 (pa_cons (pv 0) (pa_cons pe_int pa_nil)))) (pa_cons (pe_call G_law_take (hr.mono (by decide)) (by rfl) T.g_law_take T.F_law_take.kp T.b_law_take .nil pass0 (pa_cons (pv 0) (pa_cons pe_int pa_nil))) pa_nil)))))) (pe_call G_law_take (hr.mono (by decide)) (by rfl) T.g_law_take T.F_law_take.kp T.b_law_take .nil pass0 (pa_cons (pv 0) (pa_cons pe_int pa_nil))) (fun _ _ => rfl)))))
/-! _law_steps: level 3; slots 0 box 1 order 2 count 3 great 4 found 5 k 6 at 7 to 8 again -/
def t_law_steps (T : TX K mg) : TS := (tSeq (tAsg (tLst tNil) (gName 4))
  (tSeq (tFor (iRng1 (tCons (tVar 2) tNil)) (gName 5) (tSeq (tAsg (tCall (sp_law_take T) [] E0 (tCons (tVar 0) (tCons (tOp rSubI (tCB (rLenSeq K) (tCons (tVar 1) tNil)) (tC (.int 1))) tNil))) (gName 6))
  (tSeq (tAsg (tOp rAddI (tOp rAddI (tVar 6) (tC (.int 1))) (tCall (sp_law_take T) [] E0 (tCons (tVar 0) (tCons (tOp rSubI (tOp rSubI (tCB (rLenSeq K) (tCons (tVar 1) tNil)) (tC (.int 1))) (tVar 6)) tNil)))) (gName 7))
  (tSeq (tAsg (tAndV (tOp (rNeD K) (tVar 4) (tLst tNil)) (tOp rEq (tCall (sp_law_take T) [] E0 (tCons (tVar 0) (tCons (tC (.int 8)) tNil))) (tC (.int 0)))) (gName 8))
  (tDrop (tBM K "list" rAppend (tVar 4) (tCons (tIf (tB (tVar 8)) (tOp (rIxL K) (tVar 4) (tCall (sp_law_take T) [] E0 (tCons (tVar 0) (tCons (tCB (rLenSeq K) (tCons (tVar 4) tNil)) tNil)))) (tTup (tCons (tOp (rIxL K) (tVar 1) (tVar 6)) (tCons (tOp (rIxL K) (tVar 1) (tVar 7)) (tCons (tCall (sp_law_duration T) [] E0 (tCons (tVar 0) (tCons (tVar 3) tNil))) tNil))))) tNil)))))))
  (tRet (tVar 4))))
theorem d_law_steps (T : TX K mg) (G_law_take : FnOk P w K mg base CX0 1 T.f_law_take T.fd_law_take ["box", "many"] (sp_law_take T)) (G_law_duration : FnOk P w K mg base CX0 2 T.f_law_duration T.fd_law_duration ["box", "great"] (sp_law_duration T)) {cdv : Value} {A : Around} {outer : List Env} {s : Shared} {H : Hp} {E : XK} (hr : Room (2) (A.deeper (envOfC "_law_steps" (defScope s_law_steps) s.heap.objs.size T.f_law_steps cdv))) :
    PSs (cxOf CX0 P w K mg base N_law_steps "_law_steps" (defScope s_law_steps) T.f_law_steps cdv A outer s H E).nox (defBody s_law_steps) (t_law_steps T) := by
  have hu0 := hr.units0
  have hu64 := hr.units
  have hu65 : (A.deeper (envOfC "_law_steps" (defScope s_law_steps) s.heap.objs.size T.f_law_steps cdv)).units + 65 < cLine := by have := hr.un; omega
  exact (pss_cons (ps_set (i := 4) sc_law_steps.nd rfl (Or.inl rfl) (pe_lst pa_nil))
  (pss_cons (ps_for PassesOwn.never rfl (pi_range1 (by rfl) T.z_range (pa_cons (pv 2) pa_nil)) (pg_name (i := 5) sc_law_steps.nd rfl (Or.inl rfl)) (pss_cons (ps_set (i := 6) sc_law_steps.nd rfl (Or.inl rfl) (pe_call G_law_take (hr.mono (by decide)) (by rfl) T.g_law_take T.F_law_take.kp T.b_law_take .nil pass0 (pa_cons (pv 0) (pa_cons (pe_op op_sub (pe_callB call_len_seq (by rfl) T.z_len (by decide +kernel) (pa_cons (pv 1) pa_nil)) pe_int) pa_nil))))
  (pss_cons (ps_set (i := 7) sc_law_steps.nd rfl (Or.inl rfl) (pe_op op_add (pe_op op_add (pv 6) pe_int) (pe_call G_law_take (hr.mono (by decide)) (by rfl) T.g_law_take T.F_law_take.kp T.b_law_take .nil pass0 (pa_cons (pv 0) (pa_cons (pe_op op_sub (pe_op op_sub (pe_callB call_len_seq (by rfl) T.z_len (by decide +kernel) (pa_cons (pv 1) pa_nil)) pe_int) (pv 6)) pa_nil)))))
  (pss_cons (ps_set (i := 8) sc_law_steps.nd rfl (Or.inl rfl) (pe_and (pe_cmpR (op_neD hu64) (pv 4) (pe_lst pa_nil) (nomark _)) (pe_one (pe_cmpR op_eq (pe_call G_law_take (hr.mono (by decide)) (by rfl) T.g_law_take T.F_law_take.kp T.b_law_take .nil pass0 (pa_cons (pv 0) (pa_cons pe_int pa_nil))) pe_int (nomark _)))))
  (pss_one (ps_expr (pe_bm PySem.F.plainAttrs_list PySem.F.slot_list_append PySem.F.type_list_append mt_append (pv 4) (pa_cons (pe_ifExp (pt_val (pv 8)) (pe_ix ix_list (pv 4) (pe_call G_law_take (hr.mono (by decide)) (by rfl) T.g_law_take T.F_law_take.kp T.b_law_take .nil pass0 (pa_cons (pv 0) (pa_cons (pe_callB call_len_seq (by rfl) T.z_len (by decide +kernel) (pa_cons (pv 4) pa_nil)) pa_nil))) (fun _ _ => rfl)) (pe_tup (pa_cons (pe_ix ix_list (pv 1) (pv 6) (fun _ _ => rfl)) (pa_cons (pe_ix ix_list (pv 1) (pv 7) (fun _ _ => rfl)) (pa_cons (pe_call G_law_duration (hr.mono (by decide)) (by rfl) T.g_law_duration T.F_law_duration.kp T.b_law_duration .nil pass0 (pa_cons (pv 0) (pa_cons (pv 3) pa_nil))) pa_nil))))) pa_nil))))))))
  (pss_one (ps_ret (pv 4)))))
/-! _law_plan: level 4; slots 0 box 1 wide 2 great 3 many 4 order 5 steps 6 line 7 event 8 k -/
def t_law_plan (T : TX K mg) : TS := (tSeq (tAsg (tIf (tB (tVar 1)) (tC (.int 20)) (tOp rAddI (tC (.int 1)) (tCall (sp_law_take T) [] E0 (tCons (tVar 0) (tCons (tC (.int 7)) tNil))))) (gName 3))
  (tSeq (tAsg (tCall (sp_law_mixed T) [] E0 (tCons (tVar 0) (tCons (tLstRg (tRg1 (tVar 3))) tNil))) (gName 4))
  (tSeq (tAsg (tIf (tTest (tOp rEq (tVar 3) (tC (.int 1)))) (tLst tNil) (tCall (sp_law_steps T) [] E0 (tCons (tVar 0) (tCons (tVar 4) (tCons (tIf (tB (tVar 1)) (tOp (rIxL K) (tLst (tCons (tOp rAddI (tC (.int 40)) (tCall (sp_law_take T) [] E0 (tCons (tVar 0) (tCons (tC (.int 61)) tNil)))) (tCons (tOp rAddI (tC (.int 16)) (tCall (sp_law_take T) [] E0 (tCons (tVar 0) (tCons (tC (.int 4)) tNil)))) tNil))) (tCall (sp_law_take T) [] E0 (tCons (tVar 0) (tCons (tC (.int 2)) tNil)))) (tCall (sp_law_take T) [] E0 (tCons (tVar 0) (tCons (tC (.int 12)) tNil)))) (tCons (tVar 2) tNil)))))) (gName 5))
  (tSeq (tIfS (tTest (tOp rEq (tCall (sp_law_take T) [] E0 (tCons (tVar 0) (tCons (tC (.int 2)) tNil))) (tC (.int 0)))) (tSeq (tAsg (tLc (iList K (tVar 4)) (gName 7) (tTest (tOp rGtI (tCall (sp_law_take T) [] E0 (tCons (tVar 0) (tCons (tC (.int 4)) tNil))) (tC (.int 0)))) (tVar 7) [7]) (gName 6))
  (tAsg (tOp rCat (tVar 5) (tLc (iRng1 (tCons (tOp rSubI (tCB (rLenSeq K) (tCons (tVar 6) tNil)) (tC (.int 1))) tNil)) (gName 8) tYes (tTup (tCons (tOp (rIxL K) (tVar 6) (tVar 8)) (tCons (tOp (rIxL K) (tVar 6) (tOp rAddI (tVar 8) (tC (.int 1)))) (tCons (tCall (sp_law_duration T) [] E0 (tCons (tVar 0) (tCons (tVar 2) tNil))) tNil)))) [8])) (gName 5))) tNext)
  (tRet (tLst (tCons (tTup (tCons (tVar 3) (tCons (tCB (rTupleOf K) (tCons (tCB (rSortedD K) (tCons (tVar 5) tNil)) tNil)) tNil))) (tCons (tVar 4) tNil))))))))
theorem d_law_plan (T : TX K mg) (G_law_take : FnOk P w K mg base CX0 1 T.f_law_take T.fd_law_take ["box", "many"] (sp_law_take T)) (G_law_mixed : FnOk P w K mg base CX0 2 T.f_law_mixed T.fd_law_mixed ["box", "items"] (sp_law_mixed T)) (G_law_steps : FnOk P w K mg base CX0 3 T.f_law_steps T.fd_law_steps ["box", "order", "count", "great"] (sp_law_steps T)) (G_law_duration : FnOk P w K mg base CX0 2 T.f_law_duration T.fd_law_duration ["box", "great"] (sp_law_duration T)) {cdv : Value} {A : Around} {outer : List Env} {s : Shared} {H : Hp} {E : XK} (hr : Room (3) (A.deeper (envOfC "_law_plan" (defScope s_law_plan) s.heap.objs.size T.f_law_plan cdv))) :
    PSs (cxOf CX0 P w K mg base N_law_plan "_law_plan" (defScope s_law_plan) T.f_law_plan cdv A outer s H E).nox (defBody s_law_plan) (t_law_plan T) := by
  have hu0 := hr.units0
  have hu64 := hr.units
  have hu65 : (A.deeper (envOfC "_law_plan" (defScope s_law_plan) s.heap.objs.size T.f_law_plan cdv)).units + 65 < cLine := by have := hr.un; omega
  exact (pss_cons (ps_set (i := 3) sc_law_plan.nd rfl (Or.inl rfl) (pe_ifExp (pt_val (pv 1)) pe_int (pe_op op_add pe_int (pe_call G_law_take (hr.mono (by decide)) (by rfl) T.g_law_take T.F_law_take.kp T.b_law_take .nil pass0 (pa_cons (pv 0) (pa_cons pe_int pa_nil))))))
  (pss_cons (ps_set (i := 4) sc_law_plan.nd rfl (Or.inl rfl) (pe_call G_law_mixed (hr.mono (by decide)) (by rfl) T.g_law_mixed T.F_law_mixed.kp T.b_law_mixed .nil pass0 (pa_cons (pv 0) (pa_cons (pe_listRg rfl (by rfl) T.z_list (prg_1 (by rfl) T.z_range (pv 3))) pa_nil))))
  (pss_cons (ps_set (i := 5) sc_law_plan.nd rfl (Or.inl rfl) (pe_ifExp (pt_cmpR op_eq (pv 3) pe_int (nomark _)) (pe_lst pa_nil) (pe_call G_law_steps (hr.mono (by decide)) (by rfl) T.g_law_steps T.F_law_steps.kp T.b_law_steps .nil pass0 (pa_cons (pv 0) (pa_cons (pv 4) (pa_cons (pe_ifExp (pt_val (pv 1)) (pe_ix ix_list (pe_lst (pa_cons (pe_op op_add pe_int (pe_call G_law_take (hr.mono (by decide)) (by rfl) T.g_law_take T.F_law_take.kp T.b_law_take .nil pass0 (pa_cons (pv 0) (pa_cons pe_int pa_nil)))) (pa_cons (pe_op op_add pe_int (pe_call G_law_take (hr.mono (by decide)) (by rfl) T.g_law_take T.F_law_take.kp T.b_law_take .nil pass0 (pa_cons (pv 0) (pa_cons pe_int pa_nil)))) pa_nil))) (pe_call G_law_take (hr.mono (by decide)) (by rfl) T.g_law_take T.F_law_take.kp T.b_law_take .nil pass0 (pa_cons (pv 0) (pa_cons pe_int pa_nil))) (fun _ _ => rfl)) (pe_call G_law_take (hr.mono (by decide)) (by rfl) T.g_law_take T.F_law_take.kp T.b_law_take .nil pass0 (pa_cons (pv 0) (pa_cons pe_int pa_nil)))) (pa_cons (pv 2) pa_nil)))))))
  (pss_cons (ps_if (pt_cmpR op_eq (pe_call G_law_take (hr.mono (by decide)) (by rfl) T.g_law_take T.F_law_take.kp T.b_law_take .nil pass0 (pa_cons (pv 0) (pa_cons pe_int pa_nil))) pe_int (nomark _)) (pss_cons (ps_set (i := 6) sc_law_plan.nd rfl (Or.inr rfl) (pe_lc (own := [("event", 7)]) rfl sc_law_plan.nd (pi_list (pv 4)) (blkOk_by (own := [("event", 7)]) (N := N_law_plan) (sc := defScope s_law_plan) (by decide +kernel)) (fun _ _ _ _ _ => (pg_name (i := 7) sc_law_plan.nd rfl (Or.inl rfl))) (fun _ _ _ _ _ => (pts_one (pt_cmpR op_gt (pe_call G_law_take (hr.mono (by decide)) (by rfl) T.g_law_take T.F_law_take.kp T.b_law_take .nil pass0 (pa_cons (pv 0) (pa_cons pe_int pa_nil))) pe_int (nomark _)))) (fun _ _ _ _ _ => (pv 7))))
  (pss_one (ps_set (i := 5) sc_law_plan.nd rfl (Or.inl rfl) (pe_op op_cat (pv 5) (pe_lc (own := [("k", 8)]) rfl sc_law_plan.nd (pi_range1 (by rfl) T.z_range (pa_cons (pe_op op_sub (pe_callB call_len_seq (by rfl) T.z_len (by decide +kernel) (pa_cons (pv 6) pa_nil)) pe_int) pa_nil)) (blkOk_by (own := [("k", 8)]) (N := N_law_plan) (sc := defScope s_law_plan) (by decide +kernel)) (fun _ _ _ _ _ => (pg_name (i := 8) sc_law_plan.nd rfl (Or.inl rfl))) (fun _ _ _ _ _ => pts_nil) (fun _ _ _ _ _ => (pe_tup (pa_cons (pe_ix ix_list (pv 6) (pv 8) (fun _ _ => rfl)) (pa_cons (pe_ix ix_list (pv 6) (pe_op op_add (pv 8) pe_int) (fun _ _ => rfl)) (pa_cons (pe_call G_law_duration (hr.mono (by decide)) (by rfl) T.g_law_duration T.F_law_duration.kp T.b_law_duration .nil pass0 (pa_cons (pv 0) (pa_cons (pv 2) pa_nil))) pa_nil)))))))))) pss_nil)
  (pss_one (ps_ret (pe_lst (pa_cons (pe_tup (pa_cons (pv 3) (pa_cons (pe_callTy call_tuple_of (by rfl) T.z_tuple (by decide +kernel) (pa_cons (pe_callB (cr_sortedD hu64) (by rfl) T.z_sorted (by decide +kernel) (pa_cons (pv 5) pa_nil)) pa_nil)) pa_nil))) (pa_cons (pv 4) pa_nil)))))))))
/-! _law_bad_plan: level 2; slots 0 box 1 plan 2 wrong 3 found 4 many 5 steps 6 item -/
def t_law_bad_plan (T : TX K mg) : TS := (tSeq (tAsg (tVar 1) (gTup K 2 (gCons (gName 4) (gCons (gName 5) gNil))))
  (tSeq (tAsg (tLst (tCons (tTup (tCons (tC (.int 0)) (tCons (tC (.int 0)) (tCons (tC (.int 1)) tNil)))) (tCons (tTup (tCons (tC (.int 0)) (tCons (tVar 4) (tCons (tC (.int 1)) tNil)))) (tCons (tTup (tCons (tVar 4) (tCons (tC (.int 0)) (tCons (tC (.int 1)) tNil)))) (tCons (tTup (tCons (tC (.int 0)) (tCons (tC (.int 1)) (tCons (tUn rNeg (tC (.int 1))) tNil)))) (tCons (tTup (tCons (tC (.int 0)) (tCons (tC (.int 1)) tNil))) (tCons (tLst (tCons (tC (.int 0)) (tCons (tC (.int 1)) (tCons (tC (.int 2)) tNil)))) (tCons (tTup (tCons (tC (.int 0)) (tCons (tC (.int 1)) (tCons (tC .non) tNil)))) (tCons (tTup (tCons (tC (.int 0)) (tCons (tC (.int 1)) (tCons (tC (.bl true)) tNil)))) (tCons (tTup (tCons (tC (.bl true)) (tCons (tC (.int 0)) (tCons (tC (.int 2)) tNil)))) (tCons (tTup (tCons (tC (.int 0)) (tCons (tC (.int 1)) (tCons (tC (.int 2)) (tCons (tC (.int 3)) tNil))))) (tCons (tC .non) (tCons (tTup (tCons (tC (.int 0)) (tCons (tC (.int 1)) (tCons (tC (.str "1")) tNil)))) tNil))))))))))))) (gName 2))
  (tSeq (tAsg (tOp rCat (tLc (iList K (tVar 2)) (gName 6) tYes (tTup (tCons (tVar 4) (tCons (tTup (tCons (tVar 6) tNil)) tNil))) [6]) (tLst (tCons (tTup (tCons (tC (.int 0)) (tCons (tTup tNil) tNil))) (tCons (tTup (tCons (tC (.int 21)) (tCons (tTup tNil) tNil))) (tCons (tTup (tCons (tC (.bl true)) (tCons (tTup tNil) tNil))) (tCons (tTup (tCons (tC (.str "2")) (tCons (tTup tNil) tNil))) (tCons (tTup (tCons (tVar 4) (tCons (tCB (rListOf K) (tCons (tVar 5) tNil)) tNil))) (tCons (tLst (tCons (tVar 4) (tCons (tVar 5) tNil))) (tCons (tTup (tCons (tVar 4) tNil)) (tCons (tTup (tCons (tVar 4) (tCons (tVar 5) (tCons (tTup tNil) tNil)))) (tCons (tC .non) tNil))))))))))) (gName 3))
  (tSeq (tAsg (tOp rCat (tVar 3) (tLst (tCons (tTup (tCons (tC (.int 2)) (tCons (tTup (tCons (tTup (tCons (tC (.int 0)) (tCons (tC (.int 1)) (tCons (tC (.int 0)) tNil)))) (tCons (tTup (tCons (tC (.int 1)) (tCons (tC (.int 0)) (tCons (tC (.int 0)) tNil)))) tNil))) tNil))) (tCons (tTup (tCons (tC (.int 3)) (tCons (tTup (tCons (tTup (tCons (tC (.int 0)) (tCons (tC (.int 1)) (tCons (tC (.int 2)) tNil)))) (tCons (tTup (tCons (tC (.int 1)) (tCons (tC (.int 2)) (tCons (tC (.int 0)) tNil)))) (tCons (tTup (tCons (tC (.int 2)) (tCons (tC (.int 0)) (tCons (tC (.int 1)) tNil)))) tNil)))) tNil))) (tCons (tTup (tCons (tC (.int 3)) (tCons (tTup (tCons (tTup (tCons (tC (.int 0)) (tCons (tC (.int 2)) (tCons (tC (.int 2)) tNil)))) (tCons (tTup (tCons (tC (.int 0)) (tCons (tC (.int 1)) (tCons (tC (.int 3)) tNil)))) tNil))) tNil))) (tCons (tTup (tCons (tC (.int 2)) (tCons (tTup (tCons (tTup (tCons (tC (.int 0)) (tCons (tC (.int 1)) (tCons (tC (.int 3)) tNil)))) (tCons (tTup (tCons (tC (.int 0)) (tCons (tC (.int 1)) (tCons (tC (.int 2)) tNil)))) tNil))) tNil))) tNil)))))) (gName 3))
  (tSeq (tAsg (tOp rCat (tVar 3) (tLst (tCons (tTup (tCons (tC (.int 2)) (tCons (tOp (rRepT K) (tTup (tCons (tTup (tCons (tC (.int 0)) (tCons (tC (.int 1)) (tCons (tC (.int 3)) tNil)))) tNil)) (tC (.int 121))) tNil))) (tCons (tC (.str "plan")) (tCons (tC (.int 7)) (tCons (tTup tNil) (tCons (tTup (tCons (tVar 5) (tCons (tVar 4) tNil))) (tCons (tTup (tCons (tC (.int 2)) (tCons (tTup (tCons (tTup (tCons (tC (.int 1)) (tCons (tC (.int 0)) (tCons (tC (.int 2)) tNil)))) (tCons (tTup (tCons (tC (.int 0)) (tCons (tC (.int 1)) (tCons (tC (.int 3)) tNil)))) tNil))) tNil))) tNil)))))))) (gName 3))
  (tRet (tOp (rIxL K) (tVar 3) (tCall (sp_law_take T) [] E0 (tCons (tVar 0) (tCons (tCB (rLenSeq K) (tCons (tVar 3) tNil)) tNil))))))))))
theorem d_law_bad_plan (T : TX K mg) (G_law_take : FnOk P w K mg base CX0 1 T.f_law_take T.fd_law_take ["box", "many"] (sp_law_take T)) {cdv : Value} {A : Around} {outer : List Env} {s : Shared} {H : Hp} {E : XK} (hr : Room (1) (A.deeper (envOfC "_law_bad_plan" (defScope s_law_bad_plan) s.heap.objs.size T.f_law_bad_plan cdv))) :
    PSs (cxOf CX0 P w K mg base N_law_bad_plan "_law_bad_plan" (defScope s_law_bad_plan) T.f_law_bad_plan cdv A outer s H E).nox (defBody s_law_bad_plan) (t_law_bad_plan T) := by
  have hu0 := hr.units0
  have hu64 := hr.units
  have hu65 : (A.deeper (envOfC "_law_bad_plan" (defScope s_law_bad_plan) s.heap.objs.size T.f_law_bad_plan cdv)).units + 65 < cLine := by have := hr.un; omega
  exact (pss_cons (ps_asg (pv 1) (pg_tup rfl (pgs_cons (pg_name (i := 4) sc_law_bad_plan.nd rfl (Or.inr rfl)) (pgs_cons (pg_name (i := 5) sc_law_bad_plan.nd rfl (Or.inl rfl)) pgs_nil))))
  (pss_cons (ps_set (i := 2) sc_law_bad_plan.nd rfl (Or.inl rfl) (pe_lst (pa_cons (pe_tup (pa_cons pe_int (pa_cons pe_int (pa_cons pe_int pa_nil)))) (pa_cons (pe_tup (pa_cons pe_int (pa_cons (pv 4) (pa_cons pe_int pa_nil)))) (pa_cons (pe_tup (pa_cons (pv 4) (pa_cons pe_int (pa_cons pe_int pa_nil)))) (pa_cons (pe_tup (pa_cons pe_int (pa_cons pe_int (pa_cons (pe_un un_neg pe_int) pa_nil)))) (pa_cons (pe_tup (pa_cons pe_int (pa_cons pe_int pa_nil))) (pa_cons (pe_lst (pa_cons pe_int (pa_cons pe_int (pa_cons pe_int pa_nil)))) (pa_cons (pe_tup (pa_cons pe_int (pa_cons pe_int (pa_cons pe_non pa_nil)))) (pa_cons (pe_tup (pa_cons pe_int (pa_cons pe_int (pa_cons pe_bl pa_nil)))) (pa_cons (pe_tup (pa_cons pe_bl (pa_cons pe_int (pa_cons pe_int pa_nil)))) (pa_cons (pe_tup (pa_cons pe_int (pa_cons pe_int (pa_cons pe_int (pa_cons pe_int pa_nil))))) (pa_cons pe_non (pa_cons (pe_tup (pa_cons pe_int (pa_cons pe_int (pa_cons pe_str pa_nil)))) pa_nil))))))))))))))
  (pss_cons (ps_set (i := 3) sc_law_bad_plan.nd rfl (Or.inl rfl) (pe_op op_cat (pe_lc (own := [("item", 6)]) rfl sc_law_bad_plan.nd (pi_list (pv 2)) (blkOk_by (own := [("item", 6)]) (N := N_law_bad_plan) (sc := defScope s_law_bad_plan) (by decide +kernel)) (fun _ _ _ _ _ => (pg_name (i := 6) sc_law_bad_plan.nd rfl (Or.inl rfl))) (fun _ _ _ _ _ => pts_nil) (fun _ _ _ _ _ => (pe_tup (pa_cons (pv 4) (pa_cons (pe_tup (pa_cons (pv 6) pa_nil)) pa_nil))))) (pe_lst (pa_cons (pe_tup (pa_cons pe_int (pa_cons (pe_tup pa_nil) pa_nil))) (pa_cons (pe_tup (pa_cons pe_int (pa_cons (pe_tup pa_nil) pa_nil))) (pa_cons (pe_tup (pa_cons pe_bl (pa_cons (pe_tup pa_nil) pa_nil))) (pa_cons (pe_tup (pa_cons pe_str (pa_cons (pe_tup pa_nil) pa_nil))) (pa_cons (pe_tup (pa_cons (pv 4) (pa_cons (pe_callTy call_list_of (by rfl) T.z_list (by decide +kernel) (pa_cons (pv 5) pa_nil)) pa_nil))) (pa_cons (pe_lst (pa_cons (pv 4) (pa_cons (pv 5) pa_nil))) (pa_cons (pe_tup (pa_cons (pv 4) pa_nil)) (pa_cons (pe_tup (pa_cons (pv 4) (pa_cons (pv 5) (pa_cons (pe_tup pa_nil) pa_nil)))) (pa_cons pe_non pa_nil))))))))))))
  (pss_cons (ps_set (i := 3) sc_law_bad_plan.nd rfl (Or.inl rfl) (pe_op op_cat (pv 3) (pe_lst (pa_cons (pe_tup (pa_cons pe_int (pa_cons (pe_tup (pa_cons (pe_tup (pa_cons pe_int (pa_cons pe_int (pa_cons pe_int pa_nil)))) (pa_cons (pe_tup (pa_cons pe_int (pa_cons pe_int (pa_cons pe_int pa_nil)))) pa_nil))) pa_nil))) (pa_cons (pe_tup (pa_cons pe_int (pa_cons (pe_tup (pa_cons (pe_tup (pa_cons pe_int (pa_cons pe_int (pa_cons pe_int pa_nil)))) (pa_cons (pe_tup (pa_cons pe_int (pa_cons pe_int (pa_cons pe_int pa_nil)))) (pa_cons (pe_tup (pa_cons pe_int (pa_cons pe_int (pa_cons pe_int pa_nil)))) pa_nil)))) pa_nil))) (pa_cons (pe_tup (pa_cons pe_int (pa_cons (pe_tup (pa_cons (pe_tup (pa_cons pe_int (pa_cons pe_int (pa_cons pe_int pa_nil)))) (pa_cons (pe_tup (pa_cons pe_int (pa_cons pe_int (pa_cons pe_int pa_nil)))) pa_nil))) pa_nil))) (pa_cons (pe_tup (pa_cons pe_int (pa_cons (pe_tup (pa_cons (pe_tup (pa_cons pe_int (pa_cons pe_int (pa_cons pe_int pa_nil)))) (pa_cons (pe_tup (pa_cons pe_int (pa_cons pe_int (pa_cons pe_int pa_nil)))) pa_nil))) pa_nil))) pa_nil)))))))
  (pss_cons (ps_set (i := 3) sc_law_bad_plan.nd rfl (Or.inl rfl) (pe_op op_cat (pv 3) (pe_lst (pa_cons (pe_tup (pa_cons pe_int (pa_cons (pe_op op_repT (pe_tup (pa_cons (pe_tup (pa_cons pe_int (pa_cons pe_int (pa_cons pe_int pa_nil)))) pa_nil)) pe_int) pa_nil))) (pa_cons pe_str (pa_cons pe_int (pa_cons (pe_tup pa_nil) (pa_cons (pe_tup (pa_cons (pv 5) (pa_cons (pv 4) pa_nil))) (pa_cons (pe_tup (pa_cons pe_int (pa_cons (pe_tup (pa_cons (pe_tup (pa_cons pe_int (pa_cons pe_int (pa_cons pe_int pa_nil)))) (pa_cons (pe_tup (pa_cons pe_int (pa_cons pe_int (pa_cons pe_int pa_nil)))) pa_nil))) pa_nil))) pa_nil)))))))))
  (pss_one (ps_ret (pe_ix ix_list (pv 3) (pe_call G_law_take (hr.mono (by decide)) (by rfl) T.g_law_take T.F_law_take.kp T.b_law_take .nil pass0 (pa_cons (pv 0) (pa_cons (pe_callB call_len_seq (by rfl) T.z_len (by decide +kernel) (pa_cons (pv 3) pa_nil)) pa_nil))) (fun _ _ => rfl)))))))))
/-! _law_line: level 3; slots 0 box 1 steps 2 order 3 more 4 k -/
def t_law_line (T : TX K mg) : TS := (tSeq (tAsg (tTup (tCons (tCall (sp_law_mixed T) [] E0 (tCons (tVar 0) (tCons (tLstRg (tRg1 (tOp rAddI (tC (.int 18)) (tCall (sp_law_take T) [] E0 (tCons (tVar 0) (tCons (tC (.int 3)) tNil)))))) tNil))) (tCons (tCB rMin2 (tCons (tC (.int 1)) (tCons (tCall (sp_law_take T) [] E0 (tCons (tVar 0) (tCons (tC (.int 3)) tNil))) tNil))) tNil))) (gTup K 2 (gCons (gName 2) (gCons (gName 3) gNil))))
  (tSeq (tAsg (tOp rCat (tLc (iRng1 (tCons (tC (.int 15)) tNil)) (gName 4) tYes (tTup (tCons (tOp (rIxL K) (tVar 2) (tVar 4)) (tCons (tOp (rIxL K) (tVar 2) (tOp rAddI (tVar 4) (tC (.int 1)))) (tCons (tCall (sp_law_take T) [] E0 (tCons (tVar 0) (tCons (tC (.int 5)) tNil))) tNil)))) [4]) (tOp rRep (tLst (tCons (tTup (tCons (tOp (rIxL K) (tVar 2) (tC (.int 16))) (tCons (tOp (rIxL K) (tVar 2) (tC (.int 17))) (tCons (tC (.int 3)) tNil)))) tNil)) (tVar 3))) (gName 1))
  (tRet (tTup (tCons (tCB (rLenSeq K) (tCons (tVar 2) tNil)) (tCons (tCB (rTupleOf K) (tCons (tCB (rSortedD K) (tCons (tVar 1) tNil)) tNil)) tNil))))))
theorem d_law_line (T : TX K mg) (G_law_take : FnOk P w K mg base CX0 1 T.f_law_take T.fd_law_take ["box", "many"] (sp_law_take T)) (G_law_mixed : FnOk P w K mg base CX0 2 T.f_law_mixed T.fd_law_mixed ["box", "items"] (sp_law_mixed T)) {cdv : Value} {A : Around} {outer : List Env} {s : Shared} {H : Hp} {E : XK} (hr : Room (2) (A.deeper (envOfC "_law_line" (defScope s_law_line) s.heap.objs.size T.f_law_line cdv))) :
    PSs (cxOf CX0 P w K mg base N_law_line "_law_line" (defScope s_law_line) T.f_law_line cdv A outer s H E).nox (defBody s_law_line) (t_law_line T) := by
  have hu0 := hr.units0
  have hu64 := hr.units
  have hu65 : (A.deeper (envOfC "_law_line" (defScope s_law_line) s.heap.objs.size T.f_law_line cdv)).units + 65 < cLine := by have := hr.un; omega
  exact (pss_cons (ps_asg (pe_tup (pa_cons (pe_call G_law_mixed (hr.mono (by decide)) (by rfl) T.g_law_mixed T.F_law_mixed.kp T.b_law_mixed .nil pass0 (pa_cons (pv 0) (pa_cons (pe_listRg rfl (by rfl) T.z_list (prg_1 (by rfl) T.z_range (pe_op op_add pe_int (pe_call G_law_take (hr.mono (by decide)) (by rfl) T.g_law_take T.F_law_take.kp T.b_law_take .nil pass0 (pa_cons (pv 0) (pa_cons pe_int pa_nil)))))) pa_nil))) (pa_cons (pe_callB (call_min2 rfl) (by rfl) T.z_min (by decide +kernel) (pa_cons pe_int (pa_cons (pe_call G_law_take (hr.mono (by decide)) (by rfl) T.g_law_take T.F_law_take.kp T.b_law_take .nil pass0 (pa_cons (pv 0) (pa_cons pe_int pa_nil))) pa_nil))) pa_nil))) (pg_tup rfl (pgs_cons (pg_name (i := 2) sc_law_line.nd rfl (Or.inr rfl)) (pgs_cons (pg_name (i := 3) sc_law_line.nd rfl (Or.inl rfl)) pgs_nil))))
  (pss_cons (ps_set (i := 1) sc_law_line.nd rfl (Or.inl rfl) (pe_op op_cat (pe_lc (own := [("k", 4)]) rfl sc_law_line.nd (pi_range1 (by rfl) T.z_range (pa_cons pe_int pa_nil)) (blkOk_by (own := [("k", 4)]) (N := N_law_line) (sc := defScope s_law_line) (by decide +kernel)) (fun _ _ _ _ _ => (pg_name (i := 4) sc_law_line.nd rfl (Or.inl rfl))) (fun _ _ _ _ _ => pts_nil) (fun _ _ _ _ _ => (pe_tup (pa_cons (pe_ix ix_list (pv 2) (pv 4) (fun _ _ => rfl)) (pa_cons (pe_ix ix_list (pv 2) (pe_op op_add (pv 4) pe_int) (fun _ _ => rfl)) (pa_cons (pe_call G_law_take (hr.mono (by decide)) (by rfl) T.g_law_take T.F_law_take.kp T.b_law_take .nil pass0 (pa_cons (pv 0) (pa_cons pe_int pa_nil))) pa_nil)))))) (pe_op op_rep (pe_lst (pa_cons (pe_tup (pa_cons (pe_ix ix_list (pv 2) pe_int (fun _ _ => rfl)) (pa_cons (pe_ix ix_list (pv 2) pe_int (fun _ _ => rfl)) (pa_cons pe_int pa_nil)))) pa_nil)) (pv 3))))
  (pss_one (ps_ret (pe_tup (pa_cons (pe_callB call_len_seq (by rfl) T.z_len (by decide +kernel) (pa_cons (pv 2) pa_nil)) (pa_cons (pe_callTy call_tuple_of (by rfl) T.z_tuple (by decide +kernel) (pa_cons (pe_callB (cr_sortedD hu64) (by rfl) T.z_sorted (by decide +kernel) (pa_cons (pv 1) pa_nil)) pa_nil)) pa_nil)))))))
/-! _law_even: level 2; slots 0 box 1 plan 2 turn 3 many 4 steps 5 rows 6 found 7 a 8 b -/
def t_law_even (T : TX K mg) : TS := (tSeq (tAsg (tVar 1) (gTup K 2 (gCons (gName 3) (gCons (gName 4) gNil))))
  (tSeq (tPar 5 6 (tCons (tCall (sp_law_times T) [] E0 (tCons (tVar 3) (tCons (tVar 4) tNil))) (tCons (tCB (rListOf K) (tCons (tVar 4) tNil)) tNil)))
  (tSeq (tFor (iRng1 (tCons (tC (.int 3)) tNil)) (gName 2) (tSeq (tPar 7 8 (tCons (tCall (sp_law_take T) [] E0 (tCons (tVar 0) (tCons (tVar 3) tNil))) (tCons (tCall (sp_law_take T) [] E0 (tCons (tVar 0) (tCons (tVar 3) tNil))) tNil)))
  (tIfS (tAnd (tTest (tOp rNe (tVar 7) (tVar 8))) (tAnd (tTest (tOp rNotN (tOp (rIxL K) (tOp (rIxL K) (tVar 5) (tVar 7)) (tVar 8)) (tC .non))) (tTest (tOp rLtI (tCB (rLenSeq K) (tCons (tVar 6) tNil)) (tC (.int 120)))))) (tDrop (tBM K "list" rAppend (tVar 6) (tCons (tTup (tCons (tVar 7) (tCons (tVar 8) (tCons (tCB rMax2 (tCons (tC (.int 0)) (tCons (tOp rSubI (tOp rAddI (tOp (rIxL K) (tOp (rIxL K) (tVar 5) (tVar 7)) (tVar 8)) (tCall (sp_law_take T) [] E0 (tCons (tVar 0) (tCons (tC (.int 3)) tNil)))) (tC (.int 1))) tNil))) tNil)))) tNil))) tNext)))
  (tRet (tTup (tCons (tVar 3) (tCons (tCB (rTupleOf K) (tCons (tCB (rSortedD K) (tCons (tVar 6) tNil)) tNil)) tNil)))))))
theorem d_law_even (T : TX K mg) (G_law_times : FnOk P w K mg base CX0 1 T.f_law_times T.fd_law_times ["many", "activities"] (sp_law_times T)) (G_law_take : FnOk P w K mg base CX0 1 T.f_law_take T.fd_law_take ["box", "many"] (sp_law_take T)) {cdv : Value} {A : Around} {outer : List Env} {s : Shared} {H : Hp} {E : XK} (hr : Room (1) (A.deeper (envOfC "_law_even" (defScope s_law_even) s.heap.objs.size T.f_law_even cdv))) :
    PSs (cxOf CX0 P w K mg base N_law_even "_law_even" (defScope s_law_even) T.f_law_even cdv A outer s H E).nox (defBody s_law_even) (t_law_even T) := by
  have hu0 := hr.units0
  have hu64 := hr.units
  have hu65 : (A.deeper (envOfC "_law_even" (defScope s_law_even) s.heap.objs.size T.f_law_even cdv)).units + 65 < cLine := by have := hr.un; omega
  exact (pss_cons (ps_asg (pv 1) (pg_tup rfl (pgs_cons (pg_name (i := 3) sc_law_even.nd rfl (Or.inl rfl)) (pgs_cons (pg_name (i := 4) sc_law_even.nd rfl (Or.inl rfl)) pgs_nil))))
  (pss_cons (ps_par (i := 5) (j := 6) rfl sc_law_even.nd rfl rfl (by decide) rfl rfl (pa_cons (pe_call G_law_times (hr.mono (by decide)) (by rfl) T.g_law_times T.F_law_times.kp T.b_law_times .nil pass0 (pa_cons (pv 3) (pa_cons (pv 4) pa_nil))) (pa_cons (pe_callTy call_list_of (by rfl) T.z_list (by decide +kernel) (pa_cons (pv 4) pa_nil)) pa_nil)) (by rfl))
  (pss_cons (ps_for PassesOwn.never rfl (pi_range1 (by rfl) T.z_range (pa_cons pe_int pa_nil)) (pg_name (i := 2) sc_law_even.nd rfl (Or.inl rfl)) (pss_cons (ps_par (i := 7) (j := 8) rfl sc_law_even.nd rfl rfl (by decide) rfl rfl (pa_cons (pe_call G_law_take (hr.mono (by decide)) (by rfl) T.g_law_take T.F_law_take.kp T.b_law_take .nil pass0 (pa_cons (pv 0) (pa_cons (pv 3) pa_nil))) (pa_cons (pe_call G_law_take (hr.mono (by decide)) (by rfl) T.g_law_take T.F_law_take.kp T.b_law_take .nil pass0 (pa_cons (pv 0) (pa_cons (pv 3) pa_nil))) pa_nil)) (by rfl))
  (pss_one (ps_if (PW.pt (pw_and (pt_cmpR op_ne (pv 7) (pv 8) (nomark _)) (pw_and (pt_cmpR op_notN (pe_ix ix_list (pe_ix ix_list (pv 5) (pv 7) (fun _ _ => rfl)) (pv 8) (fun _ _ => rfl)) pe_non (nomark _)) (pw_and1 (pt_cmpR op_lt (pe_callB call_len_seq (by rfl) T.z_len (by decide +kernel) (pa_cons (pv 6) pa_nil)) pe_int (nomark _)))))) (pss_one (ps_expr (pe_bm PySem.F.plainAttrs_list PySem.F.slot_list_append PySem.F.type_list_append mt_append (pv 6) (pa_cons (pe_tup (pa_cons (pv 7) (pa_cons (pv 8) (pa_cons (pe_callB (call_max2 rfl) (by rfl) T.z_max (by decide +kernel) (pa_cons pe_int (pa_cons (pe_op op_sub (pe_op op_add (pe_ix ix_list (pe_ix ix_list (pv 5) (pv 7) (fun _ _ => rfl)) (pv 8) (fun _ _ => rfl)) (pe_call G_law_take (hr.mono (by decide)) (by rfl) T.g_law_take T.F_law_take.kp T.b_law_take .nil pass0 (pa_cons (pv 0) (pa_cons pe_int pa_nil)))) pe_int) pa_nil))) pa_nil)))) pa_nil)))) pss_nil))))
  (pss_one (ps_ret (pe_tup (pa_cons (pv 3) (pa_cons (pe_callTy call_tuple_of (by rfl) T.z_tuple (by decide +kernel) (pa_cons (pe_callB (cr_sortedD hu64) (by rfl) T.z_sorted (by decide +kernel) (pa_cons (pv 6) pa_nil)) pa_nil)) pa_nil))))))))
/-! _law_pairs: level 1; slots 0 rows 1 found 2 a 3 b -/
def t_law_pairs (T : TX K mg) : TS := (tSeq (tAsg (tLst tNil) (gName 1))
  (tSeq (tFor (iRng1 (tCons (tCB (rLenSeq K) (tCons (tVar 0) tNil)) tNil)) (gName 2) (tAsg (tOp rCat (tVar 1) (tLc (iRng1 (tCons (tCB (rLenSeq K) (tCons (tVar 0) tNil)) tNil)) (gName 3) (tAnd (tTest (tOp rNe (tVar 2) (tVar 3))) (tTest (tOp rNotN (tOp (rIxL K) (tOp (rIxL K) (tVar 0) (tVar 2)) (tVar 3)) (tC .non)))) (tTup (tCons (tVar 2) (tCons (tVar 3) tNil))) [3])) (gName 1)))
  (tRet (tVar 1))))
theorem d_law_pairs (T : TX K mg) {cdv : Value} {A : Around} {outer : List Env} {s : Shared} {H : Hp} {E : XK} (hr : Room (0) (A.deeper (envOfC "_law_pairs" (defScope s_law_pairs) s.heap.objs.size T.f_law_pairs cdv))) :
    PSs (cxOf CX0 P w K mg base N_law_pairs "_law_pairs" (defScope s_law_pairs) T.f_law_pairs cdv A outer s H E).nox (defBody s_law_pairs) (t_law_pairs T) := by
  have hu0 := hr.units0
  have hu64 := hr.units
  have hu65 : (A.deeper (envOfC "_law_pairs" (defScope s_law_pairs) s.heap.objs.size T.f_law_pairs cdv)).units + 65 < cLine := by have := hr.un; omega
  exact (pss_cons (ps_set (i := 1) sc_law_pairs.nd rfl (Or.inl rfl) (pe_lst pa_nil))
  (pss_cons (ps_for PassesOwn.never rfl (pi_range1 (by rfl) T.z_range (pa_cons (pe_callB call_len_seq (by rfl) T.z_len (by decide +kernel) (pa_cons (pv 0) pa_nil)) pa_nil)) (pg_name (i := 2) sc_law_pairs.nd rfl (Or.inr rfl)) (pss_one (ps_set (i := 1) sc_law_pairs.nd rfl (Or.inl rfl) (pe_op op_cat (pv 1) (pe_lc (own := [("b", 3)]) rfl sc_law_pairs.nd (pi_range1 (by rfl) T.z_range (pa_cons (pe_callB call_len_seq (by rfl) T.z_len (by decide +kernel) (pa_cons (pv 0) pa_nil)) pa_nil)) (blkOk_by (own := [("b", 3)]) (N := N_law_pairs) (sc := defScope s_law_pairs) (by decide +kernel)) (fun _ _ _ _ _ => (pg_name (i := 3) sc_law_pairs.nd rfl (Or.inl rfl))) (fun _ _ _ _ _ => (pts_one (PW.pt (pw_and (pt_cmpR op_ne (pv 2) (pv 3) (nomark _)) (pw_and1 (pt_cmpR op_notN (pe_ix ix_list (pe_ix ix_list (pv 0) (pv 2) (fun _ _ => rfl)) (pv 3) (fun _ _ => rfl)) pe_non (nomark _))))))) (fun _ _ _ _ _ => (pe_tup (pa_cons (pv 2) (pa_cons (pv 3) pa_nil)))))))))
  (pss_one (ps_ret (pv 1)))))
/-! _law_reduced: level 2; slots 0 plan 1 rows 2 found 3 a 4 b 5 sums 6 c 7 some -/
def t_law_reduced (T : TX K mg) : TS := (tSeq (tAsg (tCall (sp_law_times T) [] E0 (tCons (tOp (rIxT K) (tVar 0) (tC (.int 0))) (tCons (tOp (rIxT K) (tVar 0) (tC (.int 1))) tNil))) (gName 1))
  (tSeq (tAsg (tLst tNil) (gName 2))
  (tSeq (tFor (iList K (tCall (sp_law_pairs T) [] E0 (tCons (tVar 1) tNil))) (gTup K 2 (gCons (gName 3) (gCons (gName 4) gNil))) (tSeq (tAsg (tLc (iRng1 (tCons (tOp (rIxT K) (tVar 0) (tC (.int 0))) tNil)) (gName 6) (tAnd (tTest (tOp (rIn K true) (tVar 6) (tTup (tCons (tVar 3) (tCons (tVar 4) tNil))))) (tAnd (tTest (tOp rNotN (tOp (rIxL K) (tOp (rIxL K) (tVar 1) (tVar 3)) (tVar 6)) (tC .non))) (tTest (tOp rNotN (tOp (rIxL K) (tOp (rIxL K) (tVar 1) (tVar 6)) (tVar 4)) (tC .non))))) (tOp rAddI (tOp (rIxL K) (tOp (rIxL K) (tVar 1) (tVar 3)) (tVar 6)) (tOp (rIxL K) (tOp (rIxL K) (tVar 1) (tVar 6)) (tVar 4))) [6]) (gName 5))
  (tIfS (tTest (tOp (rEqD K) (tLc (iList K (tVar 5)) (gName 7) (tTest (tOp rGeI (tVar 7) (tOp (rIxL K) (tOp (rIxL K) (tVar 1) (tVar 3)) (tVar 4)))) (tVar 7) [7]) (tLst tNil))) (tDrop (tBM K "list" rAppend (tVar 2) (tCons (tTup (tCons (tVar 3) (tCons (tVar 4) (tCons (tOp (rIxL K) (tOp (rIxL K) (tVar 1) (tVar 3)) (tVar 4)) tNil)))) tNil))) tNext)))
  (tRet (tTup (tCons (tOp (rIxT K) (tVar 0) (tC (.int 0))) (tCons (tCB (rTupleOf K) (tCons (tCB (rSortedD K) (tCons (tVar 2) tNil)) tNil)) tNil)))))))
theorem d_law_reduced (T : TX K mg) (G_law_times : FnOk P w K mg base CX0 1 T.f_law_times T.fd_law_times ["many", "activities"] (sp_law_times T)) (G_law_pairs : FnOk P w K mg base CX0 1 T.f_law_pairs T.fd_law_pairs ["rows"] (sp_law_pairs T)) {cdv : Value} {A : Around} {outer : List Env} {s : Shared} {H : Hp} {E : XK} (hr : Room (1) (A.deeper (envOfC "_law_reduced" (defScope s_law_reduced) s.heap.objs.size T.f_law_reduced cdv))) :
    PSs (cxOf CX0 P w K mg base N_law_reduced "_law_reduced" (defScope s_law_reduced) T.f_law_reduced cdv A outer s H E).nox (defBody s_law_reduced) (t_law_reduced T) := by
  have hu0 := hr.units0
  have hu64 := hr.units
  have hu65 : (A.deeper (envOfC "_law_reduced" (defScope s_law_reduced) s.heap.objs.size T.f_law_reduced cdv)).units + 65 < cLine := by have := hr.un; omega
  exact (pss_cons (ps_set (i := 1) sc_law_reduced.nd rfl (Or.inr rfl) (pe_call G_law_times (hr.mono (by decide)) (by rfl) T.g_law_times T.F_law_times.kp T.b_law_times .nil pass0 (pa_cons (pe_ix ix_tup (pv 0) pe_int (fun _ _ => rfl)) (pa_cons (pe_ix ix_tup (pv 0) pe_int (fun _ _ => rfl)) pa_nil))))
  (pss_cons (ps_set (i := 2) sc_law_reduced.nd rfl (Or.inl rfl) (pe_lst pa_nil))
  (pss_cons (ps_for PassesOwn.never rfl (pi_list (pe_call G_law_pairs (hr.mono (by decide)) (by rfl) T.g_law_pairs T.F_law_pairs.kp T.b_law_pairs .nil pass0 (pa_cons (pv 1) pa_nil))) (pg_tup rfl (pgs_cons (pg_name (i := 3) sc_law_reduced.nd rfl (Or.inr rfl)) (pgs_cons (pg_name (i := 4) sc_law_reduced.nd rfl (Or.inr rfl)) pgs_nil))) (pss_cons (ps_setLc (i := 5) (own := [("c", 6)]) rfl sc_law_reduced.nd rfl rfl (sw_true rfl rfl rfl (by decide +kernel)) (pi_range1 (by rfl) T.z_range (pa_cons (pe_ix ix_tup (pv 0) pe_int (fun _ _ => rfl)) pa_nil)) (blkOk_by (own := [("c", 6)]) (N := N_law_reduced) (sc := defScope s_law_reduced) (by decide +kernel)) (fun _ _ _ _ _ => (pg_name (i := 6) sc_law_reduced.nd rfl (Or.inl rfl))) (fun _ _ _ _ _ => (pts_one (PW.pt (pw_and (pt_cmpR op_notIn_seq (pv 6) (pe_tup (pa_cons (pv 3) (pa_cons (pv 4) pa_nil))) (by rfl)) (pw_and (pt_cmpR op_notN (pe_ix ix_list (pe_ix ix_list (pv 1) (pv 3) (fun _ _ => rfl)) (pv 6) (fun _ _ => rfl)) pe_non (nomark _)) (pw_and1 (pt_cmpR op_notN (pe_ix ix_list (pe_ix ix_list (pv 1) (pv 6) (fun _ _ => rfl)) (pv 4) (fun _ _ => rfl)) pe_non (nomark _)))))))) (fun _ _ _ _ _ => (pe_op op_add (pe_ix ix_list (pe_ix ix_list (pv 1) (pv 3) (fun _ _ => rfl)) (pv 6) (fun _ _ => rfl)) (pe_ix ix_list (pe_ix ix_list (pv 1) (pv 6) (fun _ _ => rfl)) (pv 4) (fun _ _ => rfl)))))
  (pss_one (ps_if (pt_cmpR (op_eqD hu64) (pe_lc (own := [("some", 7)]) rfl sc_law_reduced.nd (pi_list (pv 5)) (blkOk_by (own := [("some", 7)]) (N := N_law_reduced) (sc := defScope s_law_reduced) (by decide +kernel)) (fun _ _ _ _ _ => (pg_name (i := 7) sc_law_reduced.nd rfl (Or.inl rfl))) (fun _ _ _ _ _ => (pts_one (pt_cmpR op_ge (pv 7) (pe_ix ix_list (pe_ix ix_list (pv 1) (pv 3) (fun _ _ => rfl)) (pv 4) (fun _ _ => rfl)) (nomark _)))) (fun _ _ _ _ _ => (pv 7))) (pe_lst pa_nil) (nomark _)) (pss_one (ps_expr (pe_bm PySem.F.plainAttrs_list PySem.F.slot_list_append PySem.F.type_list_append mt_append (pv 2) (pa_cons (pe_tup (pa_cons (pv 3) (pa_cons (pv 4) (pa_cons (pe_ix ix_list (pe_ix ix_list (pv 1) (pv 3) (fun _ _ => rfl)) (pv 4) (fun _ _ => rfl)) pa_nil)))) pa_nil)))) pss_nil))))
  (pss_one (ps_ret (pe_tup (pa_cons (pe_ix ix_tup (pv 0) pe_int (fun _ _ => rfl)) (pa_cons (pe_callTy call_tuple_of (by rfl) T.z_tuple (by decide +kernel) (pa_cons (pe_callB (cr_sortedD hu64) (by rfl) T.z_sorted (by decide +kernel) (pa_cons (pv 2) pa_nil)) pa_nil)) pa_nil))))))))
/-! _law_without: level 1; slots 0 plan 1 at -/
def t_law_without (T : TX K mg) : TS := (tRet (tTup (tCons (tOp (rIxT K) (tVar 0) (tC (.int 0))) (tCons (tOp (rCatA K) (tSl (rSlA K) (tOp (rIxT K) (tVar 0) (tC (.int 1))) tNoPart (tPart (tVar 1))) (tSl (rSlA K) (tOp (rIxT K) (tVar 0) (tC (.int 1))) (tPart (tOp rAddI (tVar 1) (tC (.int 1)))) tNoPart)) tNil))))
theorem d_law_without (T : TX K mg) {cdv : Value} {A : Around} {outer : List Env} {s : Shared} {H : Hp} {E : XK} (hr : Room (0) (A.deeper (envOfC "_law_without" (defScope s_law_without) s.heap.objs.size T.f_law_without cdv))) :
    PSs (cxOf CX0 P w K mg base N_law_without "_law_without" (defScope s_law_without) T.f_law_without cdv A outer s H E).nox (defBody s_law_without) (t_law_without T) := by
  have hu0 := hr.units0
  have hu64 := hr.units
  have hu65 : (A.deeper (envOfC "_law_without" (defScope s_law_without) s.heap.objs.size T.f_law_without cdv)).units + 65 < cLine := by have := hr.un; omega
  exact (pss_one (ps_ret (pe_tup (pa_cons (pe_ix ix_tup (pv 0) pe_int (fun _ _ => rfl)) (pa_cons (pe_op op_catA (pe_slice sl_tupA (pe_ix ix_tup (pv 0) pe_int (fun _ _ => rfl)) po_none (po_some (pv 1))) (pe_slice sl_tupA (pe_ix ix_tup (pv 0) pe_int (fun _ _ => rfl)) (po_some (pe_op op_add (pv 1) pe_int)) po_none)) pa_nil)))))
/-! _law_asked: level 8; slots 0 which 1 args 2 turn 3 e -/
def t_law_asked (T : TX K mg) : TS := (fun D σ H => (fun (W : WX) => (tSeq (tIfS (tTest (tOp rEq (tVar 0) (tC (.int 0)))) (tRet (tLst (tCons (tC (.str "told")) (tCons (tIf (tTest (tOp rEq (tVar 2) (tC (.int 0)))) (tCallS (sp_closure T) (WE W) (tCons (tOp (rIxL K) (tVar 1) (tC (.int 0))) tNil)) (tCallK0 (sp_closure T) kw_closureV (WE W) (tCons (tOp (rIxL K) (tVar 1) (tC (.int 0))) tNil))) tNil)))) tNext)
  (tSeq (tIfS (tTest (tOp rEq (tVar 0) (tC (.int 1)))) (tRet (tLst (tCons (tC (.str "told")) (tCons (tIf (tTest (tOp rEq (tVar 2) (tC (.int 0)))) (tCallS (sp_reduced T) (WE W) (tCons (tOp (rIxL K) (tVar 1) (tC (.int 0))) tNil)) (tCallK0 (sp_reduced T) kw_reducedV (WE W) (tCons (tOp (rIxL K) (tVar 1) (tC (.int 0))) tNil))) tNil)))) tNext)
  (tRet (tLst (tCons (tC (.str "told")) (tCons (tIf (tTest (tOp rEq (tVar 2) (tC (.int 0)))) (tCallS (sp_is_spare T) (WE W) (tCons (tOp (rIxL K) (tVar 1) (tC (.int 0))) (tCons (tOp (rIxL K) (tVar 1) (tC (.int 1))) tNil))) (tCallK0 (sp_is_spare T) kw_is_spareV (WE W) (tCons (tOp (rIxL K) (tVar 1) (tC (.int 1))) (tCons (tOp (rIxL K) (tVar 1) (tC (.int 0))) tNil)))) tNil))))))) (wClauses K (fun _ _ _ _ => False) D [(.ref T.c_InvalidPlan, some 3, fun a cls d => (tRet (tLst (tCons (tC (.str "plan")) (tCons (tXf a cls d T.c_InvalidPlan "given" (tVar 3)) tNil))))), (.ref T.c_InvalidActivity, some 3, fun a cls d => (tRet (tLst (tCons (tC (.str "activity")) (tCons (tXf a cls d T.c_InvalidActivity "given" (tVar 3)) tNil))))), (.ref T.c_TooMany, some 3, fun a cls d => (tRet (tLst (tCons (tC (.str "many")) (tCons (tXf a cls d T.c_TooMany "count" (tVar 3)) tNil)))))]) D σ H)
theorem d_law_asked (T : TX K mg) (G_closure : FnOk P w K mg base (L2.CX P w) 7 T.f_closure T.fd_closure ["plan"] (sp_closure T)) (G_reduced : FnOk P w K mg base (L2.CX P w) 7 T.f_reduced T.fd_reduced ["plan"] (sp_reduced T)) (G_is_spare : FnOk P w K mg base (L2.CX P w) 7 T.f_is_spare T.fd_is_spare ["plan", "activity"] (sp_is_spare T)) {cdv : Value} {A : Around} {outer : List Env} {s : Shared} {H : Hp} {E : XK} (hr : Room (7) (A.deeper (envOfC "_law_asked" (defScope s_law_asked) s.heap.objs.size T.f_law_asked cdv))) :
    PSs (cxOf CX0 P w K mg base N_law_asked "_law_asked" (defScope s_law_asked) T.f_law_asked cdv A outer s H E).nox (defBody s_law_asked) (t_law_asked T) := by
  have hu0 := hr.units0
  have hu64 := hr.units
  have hu65 : (A.deeper (envOfC "_law_asked" (defScope s_law_asked) s.heap.objs.size T.f_law_asked cdv)).units + 65 < cLine := by have := hr.un; omega
  exact (pss_one (ps_clauses rfl rfl takes_none5 (tb := fun (W : WX) => (tSeq (tIfS (tTest (tOp rEq (tVar 0) (tC (.int 0)))) (tRet (tLst (tCons (tC (.str "told")) (tCons (tIf (tTest (tOp rEq (tVar 2) (tC (.int 0)))) (tCallS (sp_closure T) (WE W) (tCons (tOp (rIxL K) (tVar 1) (tC (.int 0))) tNil)) (tCallK0 (sp_closure T) kw_closureV (WE W) (tCons (tOp (rIxL K) (tVar 1) (tC (.int 0))) tNil))) tNil)))) tNext)
  (tSeq (tIfS (tTest (tOp rEq (tVar 0) (tC (.int 1)))) (tRet (tLst (tCons (tC (.str "told")) (tCons (tIf (tTest (tOp rEq (tVar 2) (tC (.int 0)))) (tCallS (sp_reduced T) (WE W) (tCons (tOp (rIxL K) (tVar 1) (tC (.int 0))) tNil)) (tCallK0 (sp_reduced T) kw_reducedV (WE W) (tCons (tOp (rIxL K) (tVar 1) (tC (.int 0))) tNil))) tNil)))) tNext)
  (tRet (tLst (tCons (tC (.str "told")) (tCons (tIf (tTest (tOp rEq (tVar 2) (tC (.int 0)))) (tCallS (sp_is_spare T) (WE W) (tCons (tOp (rIxL K) (tVar 1) (tC (.int 0))) (tCons (tOp (rIxL K) (tVar 1) (tC (.int 1))) tNil))) (tCallK0 (sp_is_spare T) kw_is_spareV (WE W) (tCons (tOp (rIxL K) (tVar 1) (tC (.int 1))) (tCons (tOp (rIxL K) (tVar 1) (tC (.int 0))) tNil)))) tNil))))))) (fun W pn xe tk _ => (pss_cons (ps_if (pt_cmpR op_eq (pv 0) pe_int (nomark _)) (pss_one (ps_ret (pe_lst (pa_cons pe_str (pa_cons (pe_ifExp (pt_cmpR op_eq (pv 2) pe_int (nomark _)) (pe_callS G_closure (hr.mono (by decide)) (by rfl) T.g_closure T.F_closure.kp T.b_closure (fun σ => passAt tk σ) (pa_cons (pe_ix ix_list (pv 1) pe_int (fun _ _ => rfl)) pa_nil)) (pe_callK0 G_closure (hr.mono (by decide)) (by rfl) T.g_closure T.F_closure.kp (T.kb_closure) (fun σ => passAt tk σ) (pk_cons (pe_ix ix_list (pv 1) pe_int (fun _ _ => rfl)) pk_nil))) pa_nil))))) pss_nil)
  (pss_cons (ps_if (pt_cmpR op_eq (pv 0) pe_int (nomark _)) (pss_one (ps_ret (pe_lst (pa_cons pe_str (pa_cons (pe_ifExp (pt_cmpR op_eq (pv 2) pe_int (nomark _)) (pe_callS G_reduced (hr.mono (by decide)) (by rfl) T.g_reduced T.F_reduced.kp T.b_reduced (fun σ => passAt tk σ) (pa_cons (pe_ix ix_list (pv 1) pe_int (fun _ _ => rfl)) pa_nil)) (pe_callK0 G_reduced (hr.mono (by decide)) (by rfl) T.g_reduced T.F_reduced.kp (T.kb_reduced) (fun σ => passAt tk σ) (pk_cons (pe_ix ix_list (pv 1) pe_int (fun _ _ => rfl)) pk_nil))) pa_nil))))) pss_nil)
  (pss_one (ps_ret (pe_lst (pa_cons pe_str (pa_cons (pe_ifExp (pt_cmpR op_eq (pv 2) pe_int (nomark _)) (pe_callS G_is_spare (hr.mono (by decide)) (by rfl) T.g_is_spare T.F_is_spare.kp T.b_is_spare (fun σ => passAt tk σ) (pa_cons (pe_ix ix_list (pv 1) pe_int (fun _ _ => rfl)) (pa_cons (pe_ix ix_list (pv 1) pe_int (fun _ _ => rfl)) pa_nil))) (pe_callK0 G_is_spare (hr.mono (by decide)) (by rfl) T.g_is_spare T.F_is_spare.kp (T.kb_is_spare) (fun σ => passAt tk σ) (pk_cons (pe_ix ix_list (pv 1) pe_int (fun _ _ => rfl)) (pk_cons (pe_ix ix_list (pv 1) pe_int (fun _ _ => rfl)) pk_nil)))) pa_nil)))))))) (.as sc_law_asked.nd rfl rfl ⟨rfl, by decide, .inl T.gc_InvalidPlan⟩ (fun a oe cls d pn hz hf => (pss_one (ps_ret (pe_lst (pa_cons pe_str (pa_cons (pe_xf T.x_InvalidPlan T.nf_InvalidPlan hz hf (pv 3)) pa_nil)))))) (.as sc_law_asked.nd rfl rfl ⟨rfl, by decide, .inl T.gc_InvalidActivity⟩ (fun a oe cls d pn hz hf => (pss_one (ps_ret (pe_lst (pa_cons pe_str (pa_cons (pe_xf T.x_InvalidActivity T.nf_InvalidActivity hz hf (pv 3)) pa_nil)))))) (.as sc_law_asked.nd rfl rfl ⟨rfl, by decide, .inl T.gc_TooMany⟩ (fun a oe cls d pn hz hf => (pss_one (ps_ret (pe_lst (pa_cons pe_str (pa_cons (pe_xf T.x_TooMany T.nf_TooMany hz hf (pv 3)) pa_nil)))))) .nil)))))
/-! _law_plan_right: level 9; slots 0 box 1 plan 2 other 3 turn 4 rows 5 whole 6 due 7 which 8 pairs 9 small 10 step 11 a 12 b -/
def t_law_plan_right (T : TX K mg) : TS := (tSeq (tAsg (tCall (sp_law_times T) [] E0 (tCons (tOp (rIxT K) (tVar 1) (tC (.int 0))) (tCons (tOp (rIxT K) (tVar 1) (tC (.int 1))) tNil))) (gName 4))
  (tSeq (tPar 8 9 (tCons (tCall (sp_law_pairs T) [] E0 (tCons (tVar 4) tNil)) (tCons (tCall (sp_law_reduced T) [] E0 (tCons (tVar 1) tNil)) tNil)))
  (tSeq (tAsg (tTup (tCons (tOp (rIxT K) (tVar 1) (tC (.int 0))) (tCons (tCB (rTupleOf K) (tCons (tLc (iList K (tVar 8)) (gTup K 2 (gCons (gName 11) (gCons (gName 12) gNil))) tYes (tTup (tCons (tVar 11) (tCons (tVar 12) (tCons (tOp (rIxL K) (tOp (rIxL K) (tVar 4) (tVar 11)) (tVar 12)) tNil)))) [11, 12]) tNil)) tNil))) (gName 5))
  (tSeq (tAsg (tIf (tTest (tOp rLeI (tCB (rLenSeq K) (tCons (tVar 8) tNil)) (tC (.int 120)))) (tLst (tCons (tC (.str "told")) (tCons (tVar 5) tNil))) (tLst (tCons (tC (.str "many")) (tCons (tCB (rLenSeq K) (tCons (tVar 8) tNil)) tNil)))) (gName 6))
  (tSeq (tFor (iList K (tCall (sp_law_mixed T) [] E0 (tCons (tVar 0) (tCons (tLst (tCons (tC (.int 0)) (tCons (tC (.int 1)) (tCons (tC (.int 0)) tNil)))) tNil)))) (gName 7) (tSeq (tIfS (tNot (tB (tCall (sp_same T 7) [] E0 (tCons (tCall (sp_law_asked T) [] E0 (tCons (tVar 7) (tCons (tLst (tCons (tVar 1) tNil)) (tCons (tVar 3) tNil)))) (tCons (tOp (rIxL K) (tLst (tCons (tVar 6) (tCons (tLst (tCons (tC (.str "told")) (tCons (tVar 9) tNil))) tNil))) (tVar 7)) tNil))))) (tRet (tC (.bl false))) tNext)
  (tAsg (tOp rSubI (tC (.int 1)) (tVar 3)) (gName 3))))
  (tSeq (tIfS (tOr (tTest (tOp (rNeD K) (tCall (sp_law_times T) [] E0 (tCons (tOp (rIxT K) (tVar 9) (tC (.int 0))) (tCons (tOp (rIxT K) (tVar 9) (tC (.int 1))) tNil))) (tVar 4))) (tTest (tOp (rNeD K) (tLc (iTup K (tOp (rIxT K) (tVar 9) (tC (.int 1)))) (gName 10) (tTest (tOp (rNotInDT K) (tVar 10) (tOp (rIxT K) (tVar 1) (tC (.int 1))))) (tVar 10) [10]) (tLst tNil)))) (tRet (tC (.bl false))) tNext)
  (tSeq (tIfS (tOr (tNot (tB (tCall (sp_same T 7) [] E0 (tCons (tCall (sp_law_asked T) [] E0 (tCons (tC (.int 1)) (tCons (tLst (tCons (tVar 2) tNil)) (tCons (tVar 3) tNil)))) (tCons (tLst (tCons (tC (.str "told")) (tCons (tCall (sp_law_reduced T) [] E0 (tCons (tVar 2) tNil)) tNil))) tNil))))) (tNot (tB (tCall (sp_same T 7) [] E0 (tCons (tCall (sp_law_asked T) [] E0 (tCons (tC (.int 1)) (tCons (tLst (tCons (tVar 1) tNil)) (tCons (tOp rSubI (tC (.int 1)) (tVar 3)) tNil)))) (tCons (tLst (tCons (tC (.str "told")) (tCons (tVar 9) tNil))) tNil)))))) (tRet (tC (.bl false))) tNext)
  (tSeq (tIfS (tTest (tOp rLeI (tCB (rLenSeq K) (tCons (tVar 8) tNil)) (tC (.int 120)))) (tSeq (tIfS (tOr (tNot (tB (tCall (sp_same T 7) [] E0 (tCons (tCall (sp_law_asked T) [] E0 (tCons (tC (.int 0)) (tCons (tLst (tCons (tVar 5) tNil)) (tCons (tVar 3) tNil)))) (tCons (tLst (tCons (tC (.str "told")) (tCons (tVar 5) tNil))) tNil))))) (tNot (tB (tCall (sp_same T 7) [] E0 (tCons (tCall (sp_law_asked T) [] E0 (tCons (tC (.int 1)) (tCons (tLst (tCons (tVar 5) tNil)) (tCons (tVar 3) tNil)))) (tCons (tLst (tCons (tC (.str "told")) (tCons (tVar 9) tNil))) tNil)))))) (tRet (tC (.bl false))) tNext)
  (tIfS (tNot (tB (tCall (sp_same T 7) [] E0 (tCons (tCall (sp_law_asked T) [] E0 (tCons (tC (.int 0)) (tCons (tLst (tCons (tVar 9) tNil)) (tCons (tVar 3) tNil)))) (tCons (tLst (tCons (tC (.str "told")) (tCons (tVar 5) tNil))) tNil))))) (tRet (tC (.bl false))) tNext)) tNext)
  (tRet (tCall (sp_same T 7) [] E0 (tCons (tCall (sp_law_asked T) [] E0 (tCons (tC (.int 1)) (tCons (tLst (tCons (tVar 9) tNil)) (tCons (tOp rSubI (tC (.int 1)) (tVar 3)) tNil)))) (tCons (tLst (tCons (tC (.str "told")) (tCons (tVar 9) tNil))) tNil))))))))))))
theorem d_law_plan_right (T : TX K mg) (G_law_times : FnOk P w K mg base CX0 1 T.f_law_times T.fd_law_times ["many", "activities"] (sp_law_times T)) (G_law_reduced : FnOk P w K mg base CX0 2 T.f_law_reduced T.fd_law_reduced ["plan"] (sp_law_reduced T)) (G_law_pairs : FnOk P w K mg base CX0 1 T.f_law_pairs T.fd_law_pairs ["rows"] (sp_law_pairs T)) (G_law_mixed : FnOk P w K mg base CX0 2 T.f_law_mixed T.fd_law_mixed ["box", "items"] (sp_law_mixed T)) (G_law_asked : FnOk P w K mg base CX0 8 T.f_law_asked T.fd_law_asked ["which", "args", "turn"] (sp_law_asked T)) (G_law_same : FnOk P w K mg base CX0 8 T.f_law_same T.fd_law_same ["given", "due"] (sp_same T 7)) {cdv : Value} {A : Around} {outer : List Env} {s : Shared} {H : Hp} {E : XK} (hr : Room (8) (A.deeper (envOfC "_law_plan_right" (defScope s_law_plan_right) s.heap.objs.size T.f_law_plan_right cdv))) :
    PSs (cxOf CX0 P w K mg base N_law_plan_right "_law_plan_right" (defScope s_law_plan_right) T.f_law_plan_right cdv A outer s H E).nox (defBody s_law_plan_right) (t_law_plan_right T) := by
  have hu0 := hr.units0
  have hu64 := hr.units
  have hu65 : (A.deeper (envOfC "_law_plan_right" (defScope s_law_plan_right) s.heap.objs.size T.f_law_plan_right cdv)).units + 65 < cLine := by have := hr.un; omega
  exact (pss_cons (ps_set (i := 4) sc_law_plan_right.nd rfl (Or.inr rfl) (pe_call G_law_times (hr.mono (by decide)) (by rfl) T.g_law_times T.F_law_times.kp T.b_law_times .nil pass0 (pa_cons (pe_ix ix_tup (pv 1) pe_int (fun _ _ => rfl)) (pa_cons (pe_ix ix_tup (pv 1) pe_int (fun _ _ => rfl)) pa_nil))))
  (pss_cons (ps_par (i := 8) (j := 9) rfl sc_law_plan_right.nd rfl rfl (by decide) rfl rfl (pa_cons (pe_call G_law_pairs (hr.mono (by decide)) (by rfl) T.g_law_pairs T.F_law_pairs.kp T.b_law_pairs .nil pass0 (pa_cons (pv 4) pa_nil)) (pa_cons (pe_call G_law_reduced (hr.mono (by decide)) (by rfl) T.g_law_reduced T.F_law_reduced.kp T.b_law_reduced .nil pass0 (pa_cons (pv 1) pa_nil)) pa_nil)) (by rfl))
  (pss_cons (ps_set (i := 5) sc_law_plan_right.nd rfl (Or.inl rfl) (pe_tup (pa_cons (pe_ix ix_tup (pv 1) pe_int (fun _ _ => rfl)) (pa_cons (pe_callTy call_tuple_of (by rfl) T.z_tuple (by decide +kernel) (pa_cons (pe_lc (own := [("a", 11), ("b", 12)]) rfl sc_law_plan_right.nd (pi_list (pv 8)) (blkOk_by (own := [("a", 11), ("b", 12)]) (N := N_law_plan_right) (sc := defScope s_law_plan_right) (by decide +kernel)) (fun _ _ _ _ _ => (pg_tup rfl (pgs_cons (pg_name (i := 11) sc_law_plan_right.nd rfl (Or.inl rfl)) (pgs_cons (pg_name (i := 12) sc_law_plan_right.nd rfl (Or.inl rfl)) pgs_nil)))) (fun _ _ _ _ _ => pts_nil) (fun _ _ _ _ _ => (pe_tup (pa_cons (pv 11) (pa_cons (pv 12) (pa_cons (pe_ix ix_list (pe_ix ix_list (pv 4) (pv 11) (fun _ _ => rfl)) (pv 12) (fun _ _ => rfl)) pa_nil)))))) pa_nil)) pa_nil))))
  (pss_cons (ps_set (i := 6) sc_law_plan_right.nd rfl (Or.inl rfl) (pe_ifExp (pt_cmpR op_le (pe_callB call_len_seq (by rfl) T.z_len (by decide +kernel) (pa_cons (pv 8) pa_nil)) pe_int (nomark _)) (pe_lst (pa_cons pe_str (pa_cons (pv 5) pa_nil))) (pe_lst (pa_cons pe_str (pa_cons (pe_callB call_len_seq (by rfl) T.z_len (by decide +kernel) (pa_cons (pv 8) pa_nil)) pa_nil)))))
  (pss_cons (ps_for PassesOwn.never rfl (pi_list (pe_call G_law_mixed (hr.mono (by decide)) (by rfl) T.g_law_mixed T.F_law_mixed.kp T.b_law_mixed .nil pass0 (pa_cons (pv 0) (pa_cons (pe_lst (pa_cons pe_int (pa_cons pe_int (pa_cons pe_int pa_nil)))) pa_nil)))) (pg_name (i := 7) sc_law_plan_right.nd rfl (Or.inl rfl)) (pss_cons (ps_if (pt_not (pt_val (pe_call G_law_same (hr.mono (by decide)) (by rfl) T.g_law_same T.F_law_same.kp T.b_law_same .nil pass0 (pa_cons (pe_call G_law_asked (hr.mono (by decide)) (by rfl) T.g_law_asked T.F_law_asked.kp T.b_law_asked .nil pass0 (pa_cons (pv 7) (pa_cons (pe_lst (pa_cons (pv 1) pa_nil)) (pa_cons (pv 3) pa_nil)))) (pa_cons (pe_ix ix_list (pe_lst (pa_cons (pv 6) (pa_cons (pe_lst (pa_cons pe_str (pa_cons (pv 9) pa_nil))) pa_nil))) (pv 7) (fun _ _ => rfl)) pa_nil))))) (pss_one (ps_ret pe_bl)) pss_nil)
  (pss_one (ps_set (i := 3) sc_law_plan_right.nd rfl (Or.inl rfl) (pe_op op_sub pe_int (pv 3))))))
  (pss_cons (ps_if (PW.pt (pw_or (pt_cmpR (op_neD hu64) (pe_call G_law_times (hr.mono (by decide)) (by rfl) T.g_law_times T.F_law_times.kp T.b_law_times .nil pass0 (pa_cons (pe_ix ix_tup (pv 9) pe_int (fun _ _ => rfl)) (pa_cons (pe_ix ix_tup (pv 9) pe_int (fun _ _ => rfl)) pa_nil))) (pv 4) (nomark _)) (pw_or1 (pt_cmpR (op_neD hu64) (pe_lc (own := [("step", 10)]) rfl sc_law_plan_right.nd (pi_tup (pe_ix ix_tup (pv 9) pe_int (fun _ _ => rfl))) (blkOk_by (own := [("step", 10)]) (N := N_law_plan_right) (sc := defScope s_law_plan_right) (by decide +kernel)) (fun _ _ _ _ _ => (pg_name (i := 10) sc_law_plan_right.nd rfl (Or.inl rfl))) (fun _ _ _ _ _ => (pts_one (pt_cmpR (op_notInDT hu65) (pv 10) (pe_ix ix_tup (pv 1) pe_int (fun _ _ => rfl)) (by rfl)))) (fun _ _ _ _ _ => (pv 10))) (pe_lst pa_nil) (nomark _))))) (pss_one (ps_ret pe_bl)) pss_nil)
  (pss_cons (ps_if (PW.pt (pw_or (pt_not (pt_val (pe_call G_law_same (hr.mono (by decide)) (by rfl) T.g_law_same T.F_law_same.kp T.b_law_same .nil pass0 (pa_cons (pe_call G_law_asked (hr.mono (by decide)) (by rfl) T.g_law_asked T.F_law_asked.kp T.b_law_asked .nil pass0 (pa_cons pe_int (pa_cons (pe_lst (pa_cons (pv 2) pa_nil)) (pa_cons (pv 3) pa_nil)))) (pa_cons (pe_lst (pa_cons pe_str (pa_cons (pe_call G_law_reduced (hr.mono (by decide)) (by rfl) T.g_law_reduced T.F_law_reduced.kp T.b_law_reduced .nil pass0 (pa_cons (pv 2) pa_nil)) pa_nil))) pa_nil))))) (pw_or1 (pt_not (pt_val (pe_call G_law_same (hr.mono (by decide)) (by rfl) T.g_law_same T.F_law_same.kp T.b_law_same .nil pass0 (pa_cons (pe_call G_law_asked (hr.mono (by decide)) (by rfl) T.g_law_asked T.F_law_asked.kp T.b_law_asked .nil pass0 (pa_cons pe_int (pa_cons (pe_lst (pa_cons (pv 1) pa_nil)) (pa_cons (pe_op op_sub pe_int (pv 3)) pa_nil)))) (pa_cons (pe_lst (pa_cons pe_str (pa_cons (pv 9) pa_nil))) pa_nil)))))))) (pss_one (ps_ret pe_bl)) pss_nil)
  (pss_cons (ps_if (pt_cmpR op_le (pe_callB call_len_seq (by rfl) T.z_len (by decide +kernel) (pa_cons (pv 8) pa_nil)) pe_int (nomark _)) (pss_cons (ps_if (PW.pt (pw_or (pt_not (pt_val (pe_call G_law_same (hr.mono (by decide)) (by rfl) T.g_law_same T.F_law_same.kp T.b_law_same .nil pass0 (pa_cons (pe_call G_law_asked (hr.mono (by decide)) (by rfl) T.g_law_asked T.F_law_asked.kp T.b_law_asked .nil pass0 (pa_cons pe_int (pa_cons (pe_lst (pa_cons (pv 5) pa_nil)) (pa_cons (pv 3) pa_nil)))) (pa_cons (pe_lst (pa_cons pe_str (pa_cons (pv 5) pa_nil))) pa_nil))))) (pw_or1 (pt_not (pt_val (pe_call G_law_same (hr.mono (by decide)) (by rfl) T.g_law_same T.F_law_same.kp T.b_law_same .nil pass0 (pa_cons (pe_call G_law_asked (hr.mono (by decide)) (by rfl) T.g_law_asked T.F_law_asked.kp T.b_law_asked .nil pass0 (pa_cons pe_int (pa_cons (pe_lst (pa_cons (pv 5) pa_nil)) (pa_cons (pv 3) pa_nil)))) (pa_cons (pe_lst (pa_cons pe_str (pa_cons (pv 9) pa_nil))) pa_nil)))))))) (pss_one (ps_ret pe_bl)) pss_nil)
  (pss_one (ps_if (pt_not (pt_val (pe_call G_law_same (hr.mono (by decide)) (by rfl) T.g_law_same T.F_law_same.kp T.b_law_same .nil pass0 (pa_cons (pe_call G_law_asked (hr.mono (by decide)) (by rfl) T.g_law_asked T.F_law_asked.kp T.b_law_asked .nil pass0 (pa_cons pe_int (pa_cons (pe_lst (pa_cons (pv 9) pa_nil)) (pa_cons (pv 3) pa_nil)))) (pa_cons (pe_lst (pa_cons pe_str (pa_cons (pv 5) pa_nil))) pa_nil))))) (pss_one (ps_ret pe_bl)) pss_nil))) pss_nil)
  (pss_one (ps_ret (pe_call G_law_same (hr.mono (by decide)) (by rfl) T.g_law_same T.F_law_same.kp T.b_law_same .nil pass0 (pa_cons (pe_call G_law_asked (hr.mono (by decide)) (by rfl) T.g_law_asked T.F_law_asked.kp T.b_law_asked .nil pass0 (pa_cons pe_int (pa_cons (pe_lst (pa_cons (pv 9) pa_nil)) (pa_cons (pe_op op_sub pe_int (pv 3)) pa_nil)))) (pa_cons (pe_lst (pa_cons pe_str (pa_cons (pv 9) pa_nil))) pa_nil)))))))))))))
/-! _law_spare_right: level 9; slots 0 box 1 plan 2 turn 3 at 4 rows 5 small 6 less -/
def t_law_spare_right (T : TX K mg) : TS := (tSeq (tPar 4 5 (tCons (tCall (sp_law_times T) [] E0 (tCons (tOp (rIxT K) (tVar 1) (tC (.int 0))) (tCons (tOp (rIxT K) (tVar 1) (tC (.int 1))) tNil))) (tCons (tCall (sp_law_reduced T) [] E0 (tCons (tVar 1) tNil)) tNil)))
  (tSeq (tFor (iList K (tSl (rSlL K) (tCall (sp_law_mixed T) [] E0 (tCons (tVar 0) (tCons (tLstRg (tRg1 (tCB (rLenSeq K) (tCons (tOp (rIxT K) (tVar 1) (tC (.int 1))) tNil)))) tNil))) tNoPart (tPart (tIf (tTest (tOp rGtI (tOp (rIxT K) (tVar 1) (tC (.int 0))) (tC (.int 9)))) (tC (.int 3)) (tC (.int 8)))))) (gName 3) (tSeq (tAsg (tCall (sp_law_without T) [] E0 (tCons (tVar 1) (tCons (tVar 3) tNil))) (gName 6))
  (tSeq (tIfS (tNot (tB (tCall (sp_same T 7) [] E0 (tCons (tCall (sp_law_asked T) [] E0 (tCons (tC (.int 2)) (tCons (tLst (tCons (tVar 1) (tCons (tVar 3) tNil))) (tCons (tVar 2) tNil)))) (tCons (tLst (tCons (tC (.str "told")) (tCons (tOp (rEqD K) (tCall (sp_law_times T) [] E0 (tCons (tOp (rIxT K) (tVar 6) (tC (.int 0))) (tCons (tOp (rIxT K) (tVar 6) (tC (.int 1))) tNil))) (tVar 4)) tNil))) tNil))))) (tRet (tC (.bl false))) tNext)
  (tAsg (tOp rSubI (tC (.int 1)) (tVar 2)) (gName 2)))))
  (tSeq (tFor (iList K (tSl (rSlL K) (tCall (sp_law_mixed T) [] E0 (tCons (tVar 0) (tCons (tLstRg (tRg1 (tCB (rLenSeq K) (tCons (tOp (rIxT K) (tVar 5) (tC (.int 1))) tNil)))) tNil))) tNoPart (tPart (tIf (tTest (tOp rGtI (tOp (rIxT K) (tVar 1) (tC (.int 0))) (tC (.int 9)))) (tC (.int 2)) (tC (.int 8)))))) (gName 3) (tSeq (tAsg (tCall (sp_law_without T) [] E0 (tCons (tVar 5) (tCons (tVar 3) tNil))) (gName 6))
  (tIfS (tOr (tTest (tOp (rEqD K) (tCall (sp_law_times T) [] E0 (tCons (tOp (rIxT K) (tVar 6) (tC (.int 0))) (tCons (tOp (rIxT K) (tVar 6) (tC (.int 1))) tNil))) (tVar 4))) (tNot (tB (tCall (sp_same T 7) [] E0 (tCons (tCall (sp_law_asked T) [] E0 (tCons (tC (.int 2)) (tCons (tLst (tCons (tVar 5) (tCons (tVar 3) tNil))) (tCons (tVar 2) tNil)))) (tCons (tLst (tCons (tC (.str "told")) (tCons (tC (.bl false)) tNil))) tNil)))))) (tRet (tC (.bl false))) tNext)))
  (tRet (tC (.bl true))))))
theorem d_law_spare_right (T : TX K mg) (G_law_reduced : FnOk P w K mg base CX0 2 T.f_law_reduced T.fd_law_reduced ["plan"] (sp_law_reduced T)) (G_law_times : FnOk P w K mg base CX0 1 T.f_law_times T.fd_law_times ["many", "activities"] (sp_law_times T)) (G_law_mixed : FnOk P w K mg base CX0 2 T.f_law_mixed T.fd_law_mixed ["box", "items"] (sp_law_mixed T)) (G_law_without : FnOk P w K mg base CX0 1 T.f_law_without T.fd_law_without ["plan", "at"] (sp_law_without T)) (G_law_asked : FnOk P w K mg base CX0 8 T.f_law_asked T.fd_law_asked ["which", "args", "turn"] (sp_law_asked T)) (G_law_same : FnOk P w K mg base CX0 8 T.f_law_same T.fd_law_same ["given", "due"] (sp_same T 7)) {cdv : Value} {A : Around} {outer : List Env} {s : Shared} {H : Hp} {E : XK} (hr : Room (8) (A.deeper (envOfC "_law_spare_right" (defScope s_law_spare_right) s.heap.objs.size T.f_law_spare_right cdv))) :
    PSs (cxOf CX0 P w K mg base N_law_spare_right "_law_spare_right" (defScope s_law_spare_right) T.f_law_spare_right cdv A outer s H E).nox (defBody s_law_spare_right) (t_law_spare_right T) := by
  have hu0 := hr.units0
  have hu64 := hr.units
  have hu65 : (A.deeper (envOfC "_law_spare_right" (defScope s_law_spare_right) s.heap.objs.size T.f_law_spare_right cdv)).units + 65 < cLine := by have := hr.un; omega
  exact (pss_cons (ps_par (i := 4) (j := 5) rfl sc_law_spare_right.nd rfl rfl (by decide) rfl rfl (pa_cons (pe_call G_law_times (hr.mono (by decide)) (by rfl) T.g_law_times T.F_law_times.kp T.b_law_times .nil pass0 (pa_cons (pe_ix ix_tup (pv 1) pe_int (fun _ _ => rfl)) (pa_cons (pe_ix ix_tup (pv 1) pe_int (fun _ _ => rfl)) pa_nil))) (pa_cons (pe_call G_law_reduced (hr.mono (by decide)) (by rfl) T.g_law_reduced T.F_law_reduced.kp T.b_law_reduced .nil pass0 (pa_cons (pv 1) pa_nil)) pa_nil)) (by rfl))
  (pss_cons (ps_for PassesOwn.never rfl (pi_list (pe_slice sl_list (pe_call G_law_mixed (hr.mono (by decide)) (by rfl) T.g_law_mixed T.F_law_mixed.kp T.b_law_mixed .nil pass0 (pa_cons (pv 0) (pa_cons (pe_listRg rfl (by rfl) T.z_list (prg_1 (by rfl) T.z_range (pe_callB call_len_seq (by rfl) T.z_len (by decide +kernel) (pa_cons (pe_ix ix_tup (pv 1) pe_int (fun _ _ => rfl)) pa_nil)))) pa_nil))) po_none (po_some (pe_ifExp (pt_cmpR op_gt (pe_ix ix_tup (pv 1) pe_int (fun _ _ => rfl)) pe_int (nomark _)) pe_int pe_int)))) (pg_name (i := 3) sc_law_spare_right.nd rfl (Or.inl rfl)) (pss_cons (ps_set (i := 6) sc_law_spare_right.nd rfl (Or.inl rfl) (pe_call G_law_without (hr.mono (by decide)) (by rfl) T.g_law_without T.F_law_without.kp T.b_law_without .nil pass0 (pa_cons (pv 1) (pa_cons (pv 3) pa_nil))))
  (pss_cons (ps_if (pt_not (pt_val (pe_call G_law_same (hr.mono (by decide)) (by rfl) T.g_law_same T.F_law_same.kp T.b_law_same .nil pass0 (pa_cons (pe_call G_law_asked (hr.mono (by decide)) (by rfl) T.g_law_asked T.F_law_asked.kp T.b_law_asked .nil pass0 (pa_cons pe_int (pa_cons (pe_lst (pa_cons (pv 1) (pa_cons (pv 3) pa_nil))) (pa_cons (pv 2) pa_nil)))) (pa_cons (pe_lst (pa_cons pe_str (pa_cons (pe_cmpR (op_eqD hu64) (pe_call G_law_times (hr.mono (by decide)) (by rfl) T.g_law_times T.F_law_times.kp T.b_law_times .nil pass0 (pa_cons (pe_ix ix_tup (pv 6) pe_int (fun _ _ => rfl)) (pa_cons (pe_ix ix_tup (pv 6) pe_int (fun _ _ => rfl)) pa_nil))) (pv 4) (nomark _)) pa_nil))) pa_nil))))) (pss_one (ps_ret pe_bl)) pss_nil)
  (pss_one (ps_set (i := 2) sc_law_spare_right.nd rfl (Or.inl rfl) (pe_op op_sub pe_int (pv 2)))))))
  (pss_cons (ps_for PassesOwn.never rfl (pi_list (pe_slice sl_list (pe_call G_law_mixed (hr.mono (by decide)) (by rfl) T.g_law_mixed T.F_law_mixed.kp T.b_law_mixed .nil pass0 (pa_cons (pv 0) (pa_cons (pe_listRg rfl (by rfl) T.z_list (prg_1 (by rfl) T.z_range (pe_callB call_len_seq (by rfl) T.z_len (by decide +kernel) (pa_cons (pe_ix ix_tup (pv 5) pe_int (fun _ _ => rfl)) pa_nil)))) pa_nil))) po_none (po_some (pe_ifExp (pt_cmpR op_gt (pe_ix ix_tup (pv 1) pe_int (fun _ _ => rfl)) pe_int (nomark _)) pe_int pe_int)))) (pg_name (i := 3) sc_law_spare_right.nd rfl (Or.inl rfl)) (pss_cons (ps_set (i := 6) sc_law_spare_right.nd rfl (Or.inl rfl) (pe_call G_law_without (hr.mono (by decide)) (by rfl) T.g_law_without T.F_law_without.kp T.b_law_without .nil pass0 (pa_cons (pv 5) (pa_cons (pv 3) pa_nil))))
  (pss_one (ps_if (PW.pt (pw_or (pt_cmpR (op_eqD hu64) (pe_call G_law_times (hr.mono (by decide)) (by rfl) T.g_law_times T.F_law_times.kp T.b_law_times .nil pass0 (pa_cons (pe_ix ix_tup (pv 6) pe_int (fun _ _ => rfl)) (pa_cons (pe_ix ix_tup (pv 6) pe_int (fun _ _ => rfl)) pa_nil))) (pv 4) (nomark _)) (pw_or1 (pt_not (pt_val (pe_call G_law_same (hr.mono (by decide)) (by rfl) T.g_law_same T.F_law_same.kp T.b_law_same .nil pass0 (pa_cons (pe_call G_law_asked (hr.mono (by decide)) (by rfl) T.g_law_asked T.F_law_asked.kp T.b_law_asked .nil pass0 (pa_cons pe_int (pa_cons (pe_lst (pa_cons (pv 5) (pa_cons (pv 3) pa_nil))) (pa_cons (pv 2) pa_nil)))) (pa_cons (pe_lst (pa_cons pe_str (pa_cons pe_bl pa_nil))) pa_nil)))))))) (pss_one (ps_ret pe_bl)) pss_nil))))
  (pss_one (ps_ret pe_bl)))))
/-! _law_refused_right: level 9; slots 0 box 1 plan 2 turn 3 which 4 odd 5 activity 6 args 7 given 8 thing -/
def t_law_refused_right (T : TX K mg) : TS := (tSeq (tFor (iList K (tLst (tCons (tC (.int 0)) (tCons (tC (.int 1)) (tCons (tC (.int 2)) (tCons (tC (.int 3)) tNil)))))) (gName 3) (tSeq (tAsg (tLst (tCons (tUn rNeg (tC (.int 1))) (tCons (tCB (rLenSeq K) (tCons (tOp (rIxT K) (tVar 1) (tC (.int 1))) tNil)) (tCons (tC (.bl true)) (tCons (tC .non) (tCons (tC (.str "0")) (tCons (tTup (tCons (tC (.int 0)) tNil)) (tCons (tLst (tCons (tC (.int 0)) tNil)) (tCons (tOp rPow (tC (.int 10)) (tC (.int 39))) (tCons (tC (.bl false)) (tCons (tLst (tCons (tLst (tCons (tC (.int 0)) tNil)) tNil)) tNil))))))))))) (gName 4))
  (tSeq (tAsg (tIf (tOr (tTest (tOp rEq (tVar 3) (tC (.int 3)))) (tTest (tOp rEq (tCall (sp_law_take T) [] E0 (tCons (tVar 0) (tCons (tC (.int 2)) tNil))) (tC (.int 0))))) (tOp (rIxL K) (tVar 4) (tCall (sp_law_take T) [] E0 (tCons (tVar 0) (tCons (tC (.int 10)) tNil)))) (tC (.int 0))) (gName 5))
  (tSeq (tAsg (tLst (tCons (tIf (tTest (tOp rEq (tVar 3) (tC (.int 3)))) (tVar 1) (tCall (sp_law_bad_plan T) [] E0 (tCons (tVar 0) (tCons (tVar 1) tNil)))) (tCons (tVar 5) tNil))) (gName 6))
  (tSeq (tAsg (tCall (sp_law_asked T) [] E0 (tCons (tCB rMin2 (tCons (tC (.int 2)) (tCons (tVar 3) tNil))) (tCons (tVar 6) (tCons (tVar 2) tNil)))) (gName 7))
  (tSeq (tAsg (tOp (rIxL K) (tVar 6) (tOp rDivW (tVar 3) (tC (.int 3)))) (gName 8))
  (tSeq (tIfS (tB (tCB (rIsi K) (tCons (tVar 8) (tCons (tC (.ty "list")) tNil)))) (tDrop (tBM K "list" rAppend (tVar 8) (tCons (tUn rNeg (tC (.int 5))) tNil))) tNext)
  (tSeq (tIfS (tOr (tTest (tOp rNe (tOp (rIxL K) (tVar 7) (tC (.int 0))) (tOp (rIxL K) (tLst (tCons (tC (.str "plan")) (tCons (tC (.str "activity")) tNil))) (tOp rDivW (tVar 3) (tC (.int 3)))))) (tNot (tB (tCall (sp_same T 7) [] E0 (tCons (tOp (rIxL K) (tVar 7) (tC (.int 1))) (tCons (tVar 8) tNil)))))) (tRet (tC (.bl false))) tNext)
  (tAsg (tOp rSubI (tC (.int 1)) (tVar 2)) (gName 2))))))))))
  (tRet (tC (.bl true))))
theorem d_law_refused_right (T : TX K mg) (G_law_take : FnOk P w K mg base CX0 1 T.f_law_take T.fd_law_take ["box", "many"] (sp_law_take T)) (G_law_bad_plan : FnOk P w K mg base CX0 2 T.f_law_bad_plan T.fd_law_bad_plan ["box", "plan"] (sp_law_bad_plan T)) (G_law_asked : FnOk P w K mg base CX0 8 T.f_law_asked T.fd_law_asked ["which", "args", "turn"] (sp_law_asked T)) (G_law_same : FnOk P w K mg base CX0 8 T.f_law_same T.fd_law_same ["given", "due"] (sp_same T 7)) {cdv : Value} {A : Around} {outer : List Env} {s : Shared} {H : Hp} {E : XK} (hr : Room (8) (A.deeper (envOfC "_law_refused_right" (defScope s_law_refused_right) s.heap.objs.size T.f_law_refused_right cdv))) :
    PSs (cxOf CX0 P w K mg base N_law_refused_right "_law_refused_right" (defScope s_law_refused_right) T.f_law_refused_right cdv A outer s H E).nox (defBody s_law_refused_right) (t_law_refused_right T) := by
  have hu0 := hr.units0
  have hu64 := hr.units
  have hu65 : (A.deeper (envOfC "_law_refused_right" (defScope s_law_refused_right) s.heap.objs.size T.f_law_refused_right cdv)).units + 65 < cLine := by have := hr.un; omega
  exact (pss_cons (ps_for PassesOwn.never rfl (pi_list (pe_lst (pa_cons pe_int (pa_cons pe_int (pa_cons pe_int (pa_cons pe_int pa_nil)))))) (pg_name (i := 3) sc_law_refused_right.nd rfl (Or.inl rfl)) (pss_cons (ps_set (i := 4) sc_law_refused_right.nd rfl (Or.inl rfl) (pe_lst (pa_cons (pe_un un_neg pe_int) (pa_cons (pe_callB call_len_seq (by rfl) T.z_len (by decide +kernel) (pa_cons (pe_ix ix_tup (pv 1) pe_int (fun _ _ => rfl)) pa_nil)) (pa_cons pe_bl (pa_cons pe_non (pa_cons pe_str (pa_cons (pe_tup (pa_cons pe_int pa_nil)) (pa_cons (pe_lst (pa_cons pe_int pa_nil)) (pa_cons (pe_op op_pow pe_int pe_int) (pa_cons pe_bl (pa_cons (pe_lst (pa_cons (pe_lst (pa_cons pe_int pa_nil)) pa_nil)) pa_nil))))))))))))
  (pss_cons (ps_set (i := 5) sc_law_refused_right.nd rfl (Or.inl rfl) (pe_ifExp (PW.pt (pw_or (pt_cmpR op_eq (pv 3) pe_int (nomark _)) (pw_or1 (pt_cmpR op_eq (pe_call G_law_take (hr.mono (by decide)) (by rfl) T.g_law_take T.F_law_take.kp T.b_law_take .nil pass0 (pa_cons (pv 0) (pa_cons pe_int pa_nil))) pe_int (nomark _))))) (pe_ix ix_list (pv 4) (pe_call G_law_take (hr.mono (by decide)) (by rfl) T.g_law_take T.F_law_take.kp T.b_law_take .nil pass0 (pa_cons (pv 0) (pa_cons pe_int pa_nil))) (fun _ _ => rfl)) pe_int))
  (pss_cons (ps_set (i := 6) sc_law_refused_right.nd rfl (Or.inl rfl) (pe_lst (pa_cons (pe_ifExp (pt_cmpR op_eq (pv 3) pe_int (nomark _)) (pv 1) (pe_call G_law_bad_plan (hr.mono (by decide)) (by rfl) T.g_law_bad_plan T.F_law_bad_plan.kp T.b_law_bad_plan .nil pass0 (pa_cons (pv 0) (pa_cons (pv 1) pa_nil)))) (pa_cons (pv 5) pa_nil))))
  (pss_cons (ps_set (i := 7) sc_law_refused_right.nd rfl (Or.inl rfl) (pe_call G_law_asked (hr.mono (by decide)) (by rfl) T.g_law_asked T.F_law_asked.kp T.b_law_asked .nil pass0 (pa_cons (pe_callB (call_min2 rfl) (by rfl) T.z_min (by decide +kernel) (pa_cons pe_int (pa_cons (pv 3) pa_nil))) (pa_cons (pv 6) (pa_cons (pv 2) pa_nil)))))
  (pss_cons (ps_set (i := 8) sc_law_refused_right.nd rfl (Or.inl rfl) (pe_ix ix_list (pv 6) (pe_op op_fdivW (pv 3) pe_int) (fun _ _ => rfl)))
  (pss_cons (ps_if (pt_val (pe_callB call_isi (by rfl) T.z_isinstance (by decide +kernel) (pa_cons (pv 8) (pa_cons (pe_bltn (v := .ty "list") (by rfl) T.z_list (by decide +kernel) rfl) pa_nil)))) (pss_one (ps_expr (pe_bm PySem.F.plainAttrs_list PySem.F.slot_list_append PySem.F.type_list_append mt_append (pv 8) (pa_cons (pe_un un_neg pe_int) pa_nil)))) pss_nil)
  (pss_cons (ps_if (PW.pt (pw_or (pt_cmpR op_ne (pe_ix ix_list (pv 7) pe_int (fun _ _ => rfl)) (pe_ix ix_list (pe_lst (pa_cons pe_str (pa_cons pe_str pa_nil))) (pe_op op_fdivW (pv 3) pe_int) (fun _ _ => rfl)) (nomark _)) (pw_or1 (pt_not (pt_val (pe_call G_law_same (hr.mono (by decide)) (by rfl) T.g_law_same T.F_law_same.kp T.b_law_same .nil pass0 (pa_cons (pe_ix ix_list (pv 7) pe_int (fun _ _ => rfl)) (pa_cons (pv 8) pa_nil)))))))) (pss_one (ps_ret pe_bl)) pss_nil)
  (pss_one (ps_set (i := 2) sc_law_refused_right.nd rfl (Or.inl rfl) (pe_op op_sub pe_int (pv 2))))))))))))
  (pss_one (ps_ret pe_bl)))
/-! law: level 10; slots 0 script 1 k 2 box 3 wide 4 great 5 turn 6 plan 7 other 8 way -/
def t_law (T : TX K mg) : TS := (tSeq (tFor (iRng1 (tCons (tCB rMax2 (tCons (tC (.int 2)) (tCons (tCB rMin2 (tCons (tC (.int 4)) (tCons (tCB (rLenSeq K) (tCons (tVar 0) tNil)) tNil))) tNil))) tNil)) (gName 1) (tSeq (tAsg (tCall (sp_law_box T) [] E0 (tCons (tCall (sp_law_cell T) [] E0 (tCons (tVar 0) (tCons (tVar 1) tNil))) tNil)) (gName 2))
  (tSeq (tPar3 3 4 5 (tCons (tOp rAddI (tCall (sp_law_take T) [] E0 (tCons (tVar 2) (tCons (tC (.int 3)) tNil))) (tVar 1)) (tCons (tOp rEq (tCall (sp_law_take T) [] E0 (tCons (tVar 2) (tCons (tC (.int 8)) tNil))) (tC (.int 0))) (tCons (tCall (sp_law_take T) [] E0 (tCons (tVar 2) (tCons (tC (.int 2)) tNil))) tNil))))
  (tSeq (tPar3 6 7 8 (tCons (tOp (rIxL K) (tCall (sp_law_plan T) [] E0 (tCons (tVar 2) (tCons (tOp rEq (tVar 3) (tC (.int 0))) (tCons (tVar 4) tNil)))) (tC (.int 0))) (tCons (tOp (rIxL K) (tCall (sp_law_plan T) [] E0 (tCons (tVar 2) (tCons (tC (.bl false)) (tCons (tC (.bl false)) tNil)))) (tC (.int 0))) (tCons (tCall (sp_law_take T) [] E0 (tCons (tVar 2) (tCons (tC (.int 2)) tNil))) tNil))))
  (tSeq (tIfS (tAnd (tTest (tOp rEq (tVar 3) (tC (.int 0)))) (tTest (tOp rGtI (tCall (sp_law_take T) [] E0 (tCons (tVar 2) (tCons (tC (.int 2)) tNil))) (tC (.int 0))))) (tPar 6 8 (tCons (tCall (sp_law_line T) [] E0 (tCons (tVar 2) tNil)) (tCons (tC (.int 1)) tNil))) tNext)
  (tSeq (tIfS (tTest (tOp rEq (tVar 8) (tC (.int 0)))) (tAsg (tCall (sp_law_even T) [] E0 (tCons (tVar 2) (tCons (tVar 6) tNil))) (gName 6)) tNext)
  (tSeq (tIfS (tOr (tNot (tB (tCall (sp_law_plan_right T) [] E0 (tCons (tVar 2) (tCons (tVar 6) (tCons (tVar 7) (tCons (tVar 5) tNil))))))) (tNot (tB (tCall (sp_law_spare_right T) [] E0 (tCons (tVar 2) (tCons (tVar 6) (tCons (tVar 5) tNil))))))) (tRet (tC (.bl false))) tNext)
  (tIfS (tNot (tB (tCall (sp_law_refused_right T) [] E0 (tCons (tVar 2) (tCons (tVar 7) (tCons (tVar 5) tNil)))))) (tRet (tC (.bl false))) tNext))))))))
  (tRet (tC (.bl true))))
theorem d_law (T : TX K mg) (G_law_cell : FnOk P w K mg base CX0 1 T.f_law_cell T.fd_law_cell ["script", "k"] (sp_law_cell T)) (G_law_box : FnOk P w K mg base CX0 1 T.f_law_box T.fd_law_box ["great"] (sp_law_box T)) (G_law_take : FnOk P w K mg base CX0 1 T.f_law_take T.fd_law_take ["box", "many"] (sp_law_take T)) (G_law_plan : FnOk P w K mg base CX0 4 T.f_law_plan T.fd_law_plan ["box", "wide", "great"] (sp_law_plan T)) (G_law_line : FnOk P w K mg base CX0 3 T.f_law_line T.fd_law_line ["box"] (sp_law_line T)) (G_law_even : FnOk P w K mg base CX0 2 T.f_law_even T.fd_law_even ["box", "plan"] (sp_law_even T)) (G_law_plan_right : FnOk P w K mg base CX0 9 T.f_law_plan_right T.fd_law_plan_right ["box", "plan", "other", "turn"] (sp_law_plan_right T)) (G_law_spare_right : FnOk P w K mg base CX0 9 T.f_law_spare_right T.fd_law_spare_right ["box", "plan", "turn"] (sp_law_spare_right T)) (G_law_refused_right : FnOk P w K mg base CX0 9 T.f_law_refused_right T.fd_law_refused_right ["box", "plan", "turn"] (sp_law_refused_right T)) {cdv : Value} {A : Around} {outer : List Env} {s : Shared} {H : Hp} {E : XK} (hr : Room (9) (A.deeper (envOfC "law" (defScope s_law) s.heap.objs.size T.f_law cdv))) :
    PSs (cxOf CX0 P w K mg base N_law "law" (defScope s_law) T.f_law cdv A outer s H E).nox (defBody s_law) (t_law T) := by
  have hu0 := hr.units0
  have hu64 := hr.units
  have hu65 : (A.deeper (envOfC "law" (defScope s_law) s.heap.objs.size T.f_law cdv)).units + 65 < cLine := by have := hr.un; omega
  exact (pss_cons (ps_for PassesOwn.never rfl (pi_range1 (by rfl) T.z_range (pa_cons (pe_callB (call_max2 rfl) (by rfl) T.z_max (by decide +kernel) (pa_cons pe_int (pa_cons (pe_callB (call_min2 rfl) (by rfl) T.z_min (by decide +kernel) (pa_cons pe_int (pa_cons (pe_callB call_len_seq (by rfl) T.z_len (by decide +kernel) (pa_cons (pv 0) pa_nil)) pa_nil))) pa_nil))) pa_nil)) (pg_name (i := 1) sc_law.nd rfl (Or.inl rfl)) (pss_cons (ps_set (i := 2) sc_law.nd rfl (Or.inl rfl) (pe_call G_law_box (hr.mono (by decide)) (by rfl) T.g_law_box T.F_law_box.kp T.b_law_box .nil pass0 (pa_cons (pe_call G_law_cell (hr.mono (by decide)) (by rfl) T.g_law_cell T.F_law_cell.kp T.b_law_cell .nil pass0 (pa_cons (pv 0) (pa_cons (pv 1) pa_nil))) pa_nil)))
  (pss_cons (ps_par3 (i := 3) (j := 4) (l := 5) rfl sc_law.nd rfl rfl rfl (by decide) (by decide) (by decide) rfl rfl rfl (pa_cons (pe_op op_add (pe_call G_law_take (hr.mono (by decide)) (by rfl) T.g_law_take T.F_law_take.kp T.b_law_take .nil pass0 (pa_cons (pv 2) (pa_cons pe_int pa_nil))) (pv 1)) (pa_cons (pe_cmpR op_eq (pe_call G_law_take (hr.mono (by decide)) (by rfl) T.g_law_take T.F_law_take.kp T.b_law_take .nil pass0 (pa_cons (pv 2) (pa_cons pe_int pa_nil))) pe_int (nomark _)) (pa_cons (pe_call G_law_take (hr.mono (by decide)) (by rfl) T.g_law_take T.F_law_take.kp T.b_law_take .nil pass0 (pa_cons (pv 2) (pa_cons pe_int pa_nil))) pa_nil))) (by rfl))
  (pss_cons (ps_par3 (i := 6) (j := 7) (l := 8) rfl sc_law.nd rfl rfl rfl (by decide) (by decide) (by decide) rfl rfl rfl (pa_cons (pe_ix ix_list (pe_call G_law_plan (hr.mono (by decide)) (by rfl) T.g_law_plan T.F_law_plan.kp T.b_law_plan .nil pass0 (pa_cons (pv 2) (pa_cons (pe_cmpR op_eq (pv 3) pe_int (nomark _)) (pa_cons (pv 4) pa_nil)))) pe_int (fun _ _ => rfl)) (pa_cons (pe_ix ix_list (pe_call G_law_plan (hr.mono (by decide)) (by rfl) T.g_law_plan T.F_law_plan.kp T.b_law_plan .nil pass0 (pa_cons (pv 2) (pa_cons pe_bl (pa_cons pe_bl pa_nil)))) pe_int (fun _ _ => rfl)) (pa_cons (pe_call G_law_take (hr.mono (by decide)) (by rfl) T.g_law_take T.F_law_take.kp T.b_law_take .nil pass0 (pa_cons (pv 2) (pa_cons pe_int pa_nil))) pa_nil))) (by rfl))
  (pss_cons (ps_if (PW.pt (pw_and (pt_cmpR op_eq (pv 3) pe_int (nomark _)) (pw_and1 (pt_cmpR op_gt (pe_call G_law_take (hr.mono (by decide)) (by rfl) T.g_law_take T.F_law_take.kp T.b_law_take .nil pass0 (pa_cons (pv 2) (pa_cons pe_int pa_nil))) pe_int (nomark _))))) (pss_one (ps_par (i := 6) (j := 8) rfl sc_law.nd rfl rfl (by decide) rfl rfl (pa_cons (pe_call G_law_line (hr.mono (by decide)) (by rfl) T.g_law_line T.F_law_line.kp T.b_law_line .nil pass0 (pa_cons (pv 2) pa_nil)) (pa_cons pe_int pa_nil)) (by rfl))) pss_nil)
  (pss_cons (ps_if (pt_cmpR op_eq (pv 8) pe_int (nomark _)) (pss_one (ps_set (i := 6) sc_law.nd rfl (Or.inl rfl) (pe_call G_law_even (hr.mono (by decide)) (by rfl) T.g_law_even T.F_law_even.kp T.b_law_even .nil pass0 (pa_cons (pv 2) (pa_cons (pv 6) pa_nil))))) pss_nil)
  (pss_cons (ps_if (PW.pt (pw_or (pt_not (pt_val (pe_call G_law_plan_right (hr.mono (by decide)) (by rfl) T.g_law_plan_right T.F_law_plan_right.kp T.b_law_plan_right .nil pass0 (pa_cons (pv 2) (pa_cons (pv 6) (pa_cons (pv 7) (pa_cons (pv 5) pa_nil))))))) (pw_or1 (pt_not (pt_val (pe_call G_law_spare_right (hr.mono (by decide)) (by rfl) T.g_law_spare_right T.F_law_spare_right.kp T.b_law_spare_right .nil pass0 (pa_cons (pv 2) (pa_cons (pv 6) (pa_cons (pv 5) pa_nil))))))))) (pss_one (ps_ret pe_bl)) pss_nil)
  (pss_one (ps_if (pt_not (pt_val (pe_call G_law_refused_right (hr.mono (by decide)) (by rfl) T.g_law_refused_right T.F_law_refused_right.kp T.b_law_refused_right .nil pass0 (pa_cons (pv 2) (pa_cons (pv 7) (pa_cons (pv 5) pa_nil)))))) (pss_one (ps_ret pe_bl)) pss_nil)))))))))
  (pss_one (ps_ret pe_bl)))
end
end A69
end

section
set_option maxRecDepth 100000
set_option maxHeartbeats 2000000
/-! LRa: readings of the law: cells, boxes, digits. -/
namespace A69
open PySem PySem.Spec PyProof.Rows L2 KX MP
local macro_rules | `(tactic| walk_at "n") => `(tactic| dsimp only [rtE, tRet, tAndV, tOrV, tNotV, tCB, tCons, tNil, tVar, tC, tOp, tUn, tChain, tTest, tB, tAnd, tOr, tNot, tIf, tIfS, tSeq, tAsg, tDrop, tNext, gName, tPar, tPar3, tTup, tLst, tCall, tBM, tBM0, tSl, tPart, tNoPart, gTup, gCons, gNil, gSub, iRng1, iRng2, iList, iTup, iEnumT, iRgV, tYes, tLstRg, tRg1])

theorem Box.mono {H : Hp} {b : Addr} {k l : Nat} (h : Box H b k) (hl : k ≤ l) : Box H b l := by
  obtain ⟨x, g, m, c, h1, h2, h3, h4⟩ := h
  exact ⟨x, g, m, c, h1, h2, h3, Nat.le_trans h4 hl⟩
theorem Box.same {H H' : Hp} {b : Addr} {k : Nat} (h : Box H b k) (s : Same H H') : Box H' b k := by
  obtain ⟨x, g, m, c, h1, h2⟩ := h
  exact ⟨x, g, m, c, s _ _ h1, h2⟩
theorem Box.lst {H : Hp} {b : Addr} {k : Nat} (h : Box H b k) : ∃ xs, H b = some (.lst xs) := by
  obtain ⟨x, g, m, c, h1, h2⟩ := h
  exact ⟨_, h1⟩
theorem Box.keep {H H' : Hp} {b : Addr} {k : Nat} (h : Box H b k) (s : But b H H') : KeepT H H' := by
  obtain ⟨xs, e⟩ := h.lst
  exact s.keepT e
theorem Box.ne {H : Hp} {b p : Addr} {k : Nat} (h : Box H b k) (e : H p = none) : p ≠ b := by
  obtain ⟨xs, e2⟩ := h.lst
  rintro rfl
  rw [e] at e2; cases e2
theorem _root_.L2.But.free {b p : Addr} {H H' : Hp} (s : But b H H') (h : H' p = none) (e : p ≠ b) : H p = none := by
  cases z : H p with
  | none => rfl
  | some o => have := s p o e z; rw [h] at this; cases this
theorem _root_.L2.But.upd_new {b p : Addr} {H H' : Hp} {o : HO} (s : But b H H') (h : H' p = none) : But b H (upd H' p o) := s.tr (same_upd h)
theorem _root_.L2.But.upd_free {b p : Addr} {H H' : Hp} {o : HO} (s : But b H H') (h : H p = none) : But b H (upd H' p o) := fun a u n e => by
  have : a ≠ p := fun z => by rw [z, h] at e; cases e
  rw [upd_ne this]; exact s a u n e
theorem flat_acts (l : List Acty) : flatD (eAs l) = true := by
  show flatAll (l.map eA) = true
  exact flatAll_map (fun _ => rfl) l
theorem flat_eP (n : Nat) (l : List Acty) : flatD (eP n l) = true := by
  show (flatD (eAs l) && true) = true
  rw [flat_acts]; rfl
theorem flat_As (l : List Acty) : flatAll (l.map eA) = true := flatAll_map (fun _ => rfl) l
section
variable {K : PySem.W.Frag} {mg : Str → Option Value} (T : TX K mg) {vs : List V} {H : Hp} {Q : VK} {E : XK}

theorem rd_law_cell (h : sp_law_cell T vs H Q E) : t_law_cell T (rtE Q) (start N_law_cell vs) H := by
  unfold t_law_cell; walk_at "n"
  obtain ⟨a, ns, k, rfl, hs, hk, q⟩ := h
  refine ⟨_, rfl, _, rfl, a, _, rfl, .inl hs, _, _, rfl, rfl, _, rfl, ?_⟩
  rw [List.length_map]
  by_cases hlt : (k : Int) < (ns.length : Int)
  · rw [decide_eq_true hlt]
    have hlt' : k < ns.length := by omega
    exact iteT ⟨_, rfl, _, rfl, a, _, _, .int ns[k], rfl, rfl, hs, atI_nat (by rw [List.getElem?_map, List.getElem?_eq_getElem hlt']; rfl), q H _ (Same.refl _)⟩
  · rw [decide_eq_false hlt]
    refine iteF ?_
    refine ⟨_, rfl, _, _, rfl, rfl, ?_, _, rfl, 1, rfl, a, _, rfl, hs, fun p hp => ?_⟩
    · show (8231 : Int).natAbs.log2 + (k : Int).natAbs.log2 < 1000000
      have h1 : (8231 : Int).natAbs.log2 ≤ 8231 := Nat.log2_le_self _
      have h2 : (k : Int).natAbs.log2 ≤ (k : Int).natAbs := Nat.log2_le_self _
      omega
    · have e : cutV (ns.map V.int) none (some 1) = (ns.take 1).map V.int := by
        unfold cutV
        rw [HT.sIx_none, List.drop_zero, Nat.sub_zero, show (some (1 : Int)) = some ((1 : Nat) : Int) from rfl, HT.sIx_nat, List.map_take]
        rcases ns with _ | ⟨n, ns⟩
        · rfl
        · simp
      rw [e]
      refine ⟨p, ns.take 1, rfl, .of upd_same, .inl ⟨_, rfl, _, _, rfl, rfl, by show (1000003 : Int) ≠ 0; decide, _, _, rfl, rfl, q _ _ (same_upd hp)⟩⟩
theorem rd_law_box (h : sp_law_box T vs H Q E) : t_law_box T (rtE Q) (start N_law_box vs) H := by
  unfold t_law_box; walk_at "n"
  obtain ⟨g, rfl, q⟩ := h
  refine ⟨_, rfl, _, rfl, _, rfl, _, rfl, _, _, rfl, rfl, ⟨by decide, by decide, by decide⟩, _, _, rfl, rfl, _, rfl, _, rfl, .inl ⟨_, rfl, _, _, rfl, rfl, by show (2147483629 : Int) ≠ 0; decide, by show 4 ≤ sizeLine; decide, fun b nb => ?_⟩⟩
  refine q _ b (same_upd nb) nb ⟨_, _, _, 0, upd_same, ?_, ?_, Nat.le_refl _⟩
  · exact Int.fmod_nonneg_of_pos _ (by decide)
  · exact Int.fmod_lt_of_pos _ (by decide)
theorem log_small {n m : Nat} (h : n < 2 ^ m) (hm : 0 < m) : n.log2 < m := by
  by_cases h0 : n = 0
  · rw [h0]; simpa using hm
  · exact (Nat.log2_lt h0).mpr h
def t_take_tail (K : PySem.W.Frag) : TS :=
  (tSeq (tAsg (tOp rAddI (tOp (rIxL K) (tVar 0) (tC (.int 3))) (tC (.int 1))) (gSub (tVar 0) (tC (.int 3)) rSetL))
  (tSeq (tAsg (tOp rModN (tCB rInt1 (tCons (tOp rPow (tOp rAddI (tOp rAddI (tOp (rIxL K) (tVar 0) (tC (.int 2))) (tOp rMulW (tC (.int 15486377)) (tOp (rIxL K) (tVar 0) (tC (.int 3))))) (tC (.int 179425171))) (tC (.int 5))) tNil)) (tC (.int 2147483647))) (gName 2))
  (tRet (tOp rModN (tCB rInt1 (tCons (tOp rDivW (tOp rModN (tCB rInt1 (tCons (tOp rPow (tOp rAddI (tOp rMulW (tVar 2) (tC (.int 48271))) (tOp rMulW (tC (.int 7919)) (tOp (rIxL K) (tVar 0) (tC (.int 3))))) (tC (.int 3))) tNil)) (tC (.int 2147483587))) (tC (.int 64))) tNil)) (tVar 1)))))
theorem take_tail {b : Addr} {n k c : Nat} {x : Int} {g : Bool} {m : Int} (hl : H b = some (.lst [.int x, .bl g, .int m, .int (c : Int)])) (m0 : 0 ≤ m) (m1 : m < 2147483629) (hc : c ≤ k) (hk : k < lim) (hn : 1 ≤ n)
    (q : ∀ H' (r : Nat), But b H H' → Box H' b (k + 1) → r < n → Q (.int r) H') : t_take_tail K (rtE Q) (start N_law_take [.ref b, .int n]) H := by
  unfold t_take_tail; walk_at "n"
  have hS : SqL K H b [.int x, .bl g, .int m, .int (c : Int)] := .of hl
  have hk' : k < 1000000 := hk
  refine ⟨_, rfl, b, _, _, _, rfl, rfl, hS, atI_nat (j := 3) rfl, _, _, rfl, rfl, _, rfl, b, _, _, 3, rfl, rfl, hl, ixN_nat (by show 3 < 4; decide), ?_⟩
  have hS2 : SqL K (upd H b (.lst [.int x, .bl g, .int m, .int ((c : Int) + 1)])) b [.int x, .bl g, .int m, .int ((c : Int) + 1)] := .of upd_same
  refine ⟨_, rfl, b, _, _, _, rfl, rfl, hS2, atI_nat (j := 2) rfl, _, rfl, b, _, _, _, rfl, rfl, hS2, atI_nat (j := 3) rfl, _, _, rfl, rfl, ?_, _, _, rfl, rfl, _, _, rfl, rfl, _, _, rfl, rfl, ?_, .inl ⟨_, rfl, _, _, rfl, rfl, by show (2147483647 : Int) ≠ 0; decide, ?_⟩⟩
  · show (15486377 : Int).natAbs.log2 + ((c : Int) + 1).natAbs.log2 < 1000000
    have h1 : (15486377 : Int).natAbs.log2 < 24 := log_small (by decide) (by decide)
    have h2 : ((c : Int) + 1).natAbs.log2 < 24 := log_small (by omega) (by decide)
    omega
  · refine ⟨by decide, by decide, ?_⟩
    try dsimp only
    omega
  dsimp only
  generalize hM : Int.fmod _ (2147483647 : Int) = M
  have hM0 : 0 ≤ M := by rw [← hM]; exact Int.fmod_nonneg_of_pos _ (by decide)
  have hM1 : M < 2147483647 := by rw [← hM]; exact Int.fmod_lt_of_pos _ (by decide)
  refine ⟨_, rfl, _, _, rfl, rfl, ?_, _, rfl, b, _, _, _, rfl, rfl, hS2, atI_nat (j := 3) rfl, _, _, rfl, rfl, ?_, _, _, rfl, rfl, _, _, rfl, rfl, ?_, .inl ⟨_, rfl, _, _, rfl, rfl, by show (2147483587 : Int) ≠ 0; decide, _, _, rfl, rfl, ⟨by decide, by decide⟩, .inl ⟨_, rfl, _, rfl, _, _, rfl, rfl, (by show (n : Int) ≠ 0; omega), ?_⟩⟩⟩
  · show M.natAbs.log2 + (48271 : Int).natAbs.log2 < 1000000
    have h1 : (48271 : Int).natAbs.log2 < 24 := log_small (by decide) (by decide)
    have h2 : M.natAbs.log2 < 31 := log_small (by omega) (by decide)
    omega
  · show (7919 : Int).natAbs.log2 + ((c : Int) + 1).natAbs.log2 < 1000000
    have h1 : (7919 : Int).natAbs.log2 < 24 := log_small (by decide) (by decide)
    have h2 : ((c : Int) + 1).natAbs.log2 < 24 := log_small (by omega) (by decide)
    omega
  · refine ⟨by decide, by decide, ?_⟩
    try dsimp only
    omega
  dsimp only
  generalize hR : Int.fmod _ (n : Int) = R
  have hR0 : 0 ≤ R := by rw [← hR]; exact Int.fmod_nonneg_of_pos _ (by omega)
  have hR1 : R < n := by rw [← hR]; exact Int.fmod_lt_of_pos _ (by omega)
  obtain ⟨r, rfl⟩ : ∃ r : Nat, R = r := ⟨R.toNat, by omega⟩
  refine q _ r But.upd ⟨x, g, m, c + 1, ?_, m0, m1, by omega⟩ (by omega)
  rw [upd_same]
  rfl
theorem rd_law_take (h : sp_law_take T vs H Q E) : t_law_take T (rtE Q) (start N_law_take vs) H := by
  obtain ⟨b, n, k, rfl, hb, hk, hn, hn2, q⟩ := h
  obtain ⟨x, g, m, c, hl, m0, m1, hc⟩ := hb
  have nlog : (n : Int).natAbs.log2 < 9000 := Nat.lt_trans (log_small (m := 30) (by omega) (by decide)) (by decide)
  have hS : SqL K H b [.int x, .bl g, .int m, .int (c : Int)] := .of hl
  have tail := take_tail (K := K) (Q := Q) hl m0 m1 hc hk hn q
  unfold t_law_take; walk_at "n"
  refine ⟨_, rfl, b, _, _, _, rfl, rfl, hS, atI_nat (j := 1) rfl, g, rfl, ?_⟩
  cases g with
  | false => exact iteF (iteF tail)
  | true =>
    refine iteT ⟨_, rfl, b, _, _, _, rfl, rfl, hS, atI_nat (j := 0) rfl, _, _, rfl, rfl, _, rfl, ?_⟩
    by_cases hx : x > 0
    · rw [decide_eq_true hx]
      refine iteT ⟨_, rfl, b, _, _, _, rfl, rfl, hS, atI_nat (j := 0) rfl, .inl ⟨_, rfl, _, rfl, _, _, rfl, rfl, by show (n : Int) ≠ 0; omega, ?_⟩⟩
      refine ⟨_, rfl, b, _, _, _, rfl, rfl, hS, atI_nat (j := 0) rfl, _, rfl, _, _, rfl, rfl, ⟨by omega, nlog⟩, _, rfl, b, _, _, 0, rfl, rfl, hl, ixN_nat (by show 0 < 4; decide), ?_⟩
      dsimp only
      generalize hR : Int.fmod _ (n : Int) = R
      have hR0 : 0 ≤ R := by rw [← hR]; exact Int.fmod_nonneg_of_pos _ (by omega)
      have hR1 : R < n := by rw [← hR]; exact Int.fmod_lt_of_pos _ (by omega)
      obtain ⟨r, rfl⟩ : ∃ r : Nat, R = r := ⟨R.toNat, by omega⟩
      refine ⟨_, rfl, q _ r But.upd ⟨x / n, true, m, c, ?_, m0, m1, by omega⟩ (by omega)⟩
      rw [upd_same]
      rfl
    · rw [decide_eq_false hx]
      exact iteF tail
end
end A69
end

section
set_option maxRecDepth 100000
set_option maxHeartbeats 2000000
/-! LRb: readings of the law: mixed, without. -/
namespace A69
open PySem PySem.Spec PyProof.Rows L2 KX MP
local macro_rules | `(tactic| walk_at "n") => `(tactic| dsimp only [rtE, tRet, tAndV, tOrV, tNotV, tCB, tCons, tNil, tVar, tC, tOp, tUn, tChain, tTest, tB, tAnd, tOr, tNot, tIf, tIfS, tSeq, tAsg, tDrop, tNext, gName, tPar, tPar3, tTup, tLst, tCall, tBM, tBM0, tSl, tPart, tNoPart, gTup, gCons, gNil, gSub, iRng1, iRng2, iList, iTup, iEnumT, iRgV, tYes, tLstRg, tRg1])

theorem seq_nat {n j : Nat} (h : j < n) : seqIndex? (j : Int) n = some j := by
  unfold seqIndex?
  simp
  omega
/-- what stands on the heap while a list is mixed -/
structure MHp (H H' : Hp) (b l f : Addr) (k : Nat) (is L F : List Nat) : Prop where
  but : But b H H'
  hl : H' l = some (.lst (nats L))
  hf : H' f = some (.lst (nats F))
  perm : (F ++ L).Perm is
  box : Box H' b (k + F.length)
  lb : l ≠ b
  fb : f ≠ b
  lf : l ≠ f
  nl : H l = none
  nf : H f = none
theorem eraseIdx_perm {α : Type} : ∀ (l : List α) (i : Nat) (x : α), l[i]? = some x → (x :: l.eraseIdx i).Perm l
  | [], i, x, h => by simp at h
  | a :: l, 0, x, h => by simp at h; subst h; exact .refl _
  | a :: l, i + 1, x, h => by
    simp at h
    rw [List.eraseIdx_cons_succ]
    exact (List.Perm.swap a x _).trans ((eraseIdx_perm l i x h).cons a)
section
variable {K : PySem.W.Frag} {mg : Str → Option Value} (T : TX K mg) {vs : List V} {H : Hp} {Q : VK} {E : XK}

theorem rd_law_mixed (h : sp_law_mixed T vs H Q E) : t_law_mixed T (rtE Q) (start N_law_mixed vs) H := by
  unfold t_law_mixed; walk_at "n"
  obtain ⟨b, l0, is, k, rfl, hs, hlen, hb, hk, q⟩ := h
  have hlim : lim = 1000000 := rfl
  refine ⟨_, rfl, l0, _, rfl, .inl hs, fun l nl => ⟨Nat.zero_le _, fun f nf => ⟨_, _, rfl, ?_⟩⟩⟩
  have s1 : Same H (upd H l (.lst (nats is))) := same_upd nl
  have lf : l ≠ f := fun z => by rw [← z, upd_same] at nf; cases nf
  have nf0 := s1.free nf
  have m0 : MHp H (upd (upd H l (.lst (nats is))) f (.lst [])) b l f k is is [] := by
    refine ⟨.of (s1.upd nf), ?_, upd_same, .refl _, (hb.same (s1.upd nf)), hb.ne nl, hb.ne nf0, lf, nl, nf0⟩
    exact upd_at upd_same nf
  refine while_by (fun σ H' => ∃ L F, σ = [some (.ref b), some (.ref l0), some (.ref l), some (.ref f)] ∧ MHp H H' b l f k is L F)
    (fun σ H' => match H' l with | some (.lst l) => l.length | _ => 0) ⟨is, [], rfl, m0⟩ ?_ (fun σ H Q1 Q2 hm c => ?_)
  · rintro σ H3 ⟨L, F, rfl, m⟩
    walk_at "n"
    refine ⟨_, rfl, Nat.zero_le _, fun o no => ?_⟩
    have s3 : Same H3 (upd H3 o (.lst [])) := same_upd no
    have hl3 := upd_at (a := o) (o := .lst []) m.hl no
    have hf3 := upd_at (a := o) (o := .lst []) m.hf no
    have hlF : F.length + L.length = is.length := by have := m.perm.length_eq; rw [List.length_append] at this; exact this
    refine ne_nil (.of hl3) (.of upd_same) ⟨_, rfl, ?_⟩
    cases L with
    | nil =>
      refine iteF ⟨_, rfl, q _ f F (m.but.upd_new no) m.nf hf3 ?_ ?_⟩
      · have := m.perm; rw [List.append_nil] at this; exact this
      · rw [List.length_nil] at hlF
        exact (m.box.same s3).mono (by omega)
    | cons x0 L0 =>
      refine iteT ?_
      generalize hR : x0 :: L0 = L at *
      have hpos : 1 ≤ L.length := by rw [← hR]; simp
      refine ⟨_, rfl, .inl ⟨rfl, _, .inl (.inl hf3)⟩, _, rfl, .inl ⟨rfl, _, .inl (.inl hl3)⟩, _, rfl, _, rfl, l, _, rfl, .inl (.of hl3), ?_⟩
      refine ⟨b, L.length, k + F.length, by rw [nats_len]; rfl, m.box.same s3, by omega, hpos, by omega, fun H4 r s4 b4 hr => ?_⟩
      have hl4 := s4 _ _ m.lb hl3
      have hf4 := s4 _ _ m.fb hf3
      obtain ⟨x, hx⟩ : ∃ x, L[r]? = some x := ⟨_, List.getElem?_eq_getElem hr⟩
      refine ⟨l, _, (r : Int), r, _, rfl, rfl, hl4, by omega, by omega, seq_nat (by rw [nats_len]; exact hr), nats_get hx, ?_⟩
      have er : (nats L).eraseIdx r = nats (L.eraseIdx r) := eraseIdx_map _ _ _
      rw [er]
      have hf5 : upd H4 l (.lst (nats (L.eraseIdx r))) f = some (.lst (nats F)) := by rw [upd_ne (Ne.symm m.lf)]; exact hf4
      refine ⟨f, _, _, rfl, rfl, hf5, by rw [nats_len]; exact small_line (by omega), ?_⟩
      have ef : nats F ++ [V.int (x : Int)] = nats (F ++ [x]) := by simp [nats]
      rw [ef]
      have hle : (L.eraseIdx r).length < L.length := by rw [List.length_eraseIdx_of_lt hr]; omega
      refine ⟨⟨L.eraseIdx r, F ++ [x], rfl, ?_⟩, ?_⟩
      · refine ⟨?_, ?_, upd_same, ?_, ?_, m.lb, m.fb, m.lf, m.nl, m.nf⟩
        · exact (((m.but.tr s3).trans s4).upd_free m.nl).upd_free m.nf
        · rw [upd_ne m.lf, upd_same]
        · rw [List.append_assoc]
          exact ((eraseIdx_perm L r x hx).append_left F).trans m.perm
        · obtain ⟨x1, g, mm, c, e1, e2⟩ := b4
          refine ⟨x1, g, mm, c, ?_, e2.1, e2.2.1, ?_⟩
          · rw [upd_ne (Ne.symm m.fb), upd_ne (Ne.symm m.lb)]; exact e1
          · have := e2.2.2
            rw [List.length_append, List.length_singleton]; omega
      · show (match _ with | some (HO.lst l) => l.length | _ => 0) < (match _ with | some (HO.lst l) => l.length | _ => 0)
        rw [upd_ne m.lf, upd_same, m.hl]
        simp only [nats_len]
        exact hle
  · obtain ⟨v, e1, h1, h2⟩ := c
    refine ⟨v, e1, h1, fun o no => ?_⟩
    obtain ⟨d, e, c1, c2, c3, c4, b, eb, c5⟩ := h2 o no
    exact ⟨d, e, c1, c2, c3, c4, b, eb, hm _ _ c5⟩
theorem rd_law_without (h : sp_law_without T vs H Q E) : t_law_without T (rtE Q) (start N_law_without vs) H := by
  unfold t_law_without; walk_at "n"
  obtain ⟨v, n, acts, k, rfl, hd, h120, hk, q⟩ := h
  obtain ⟨p, wa, rfl, hp, hw⟩ := eP_inv hd
  have hk' : k + 1 ≤ (acts.map eA).length := by rw [List.length_map]; omega
  refine ⟨_, rfl, p, _, 0, _, rfl, rfl, hp, atI_nat (j := 0) rfl, _, rfl, p, _, 1, _, rfl, rfl, hp, atI_nat (j := 1) rfl, _, rfl, k, rfl, take_ (ds := acts.map eA) (k := k) hw (by omega) fun H2 v2 s2 d2 => ?_⟩
  refine ⟨_, rfl, p, _, 1, _, rfl, rfl, s2.tup hp, atI_nat (j := 1) rfl, _, rfl, _, _, rfl, rfl, ((k + 1 : Nat) : Int), congrArg V.int (by omega), drop_ (ds := acts.map eA) (k := k + 1) (hw.same s2) hk' fun H3 v3 s3 d3 => ?_⟩
  refine cat_ (d2.same s3) d3 ?_ fun H4 v4 s4 d4 => ?_
  · have h1 : (120 : Nat) ≤ sizeLine := by decide
    rw [List.length_take, List.length_drop, List.length_map]
    omega
  have e1 : (acts.map eA).take k ++ (acts.map eA).drop (k + 1) = (acts.eraseIdx k).map eA := by
    rw [List.eraseIdx_eq_take_drop_succ, List.map_append, List.map_take, List.map_drop]
  rw [e1] at d4
  refine ⟨by show 2 ≤ sizeLine; decide, fun u nu => ?_⟩
  have s14 := (s2.trans s3).trans s4
  exact q _ _ (s14.upd nu) (.tup (.of upd_same) (.cons (.int _) (.cons (d4.same (same_upd nu)) .nil)))
end
end A69
end

section
set_option maxRecDepth 100000
set_option maxHeartbeats 2000000
/-! LRc: readings of the law: durations, pairs, reduced plans. -/
namespace A69
open PySem PySem.Spec PyProof.Rows L2 KX MP
local macro_rules | `(tactic| walk_at "n") => `(tactic| dsimp only [rtE, tRet, tAndV, tOrV, tNotV, tCB, tCons, tNil, tVar, tC, tOp, tUn, tChain, tTest, tB, tAnd, tOr, tNot, tIf, tIfS, tSeq, tAsg, tDrop, tNext, gName, tPar, tPar3, tTup, tLst, tCall, tBM, tBM0, tSl, tPart, tNoPart, gTup, gCons, gNil, gSub, iRng1, iRng2, iList, iTup, iEnumT, iRgV, tYes, tLstRg, tRg1])

theorem HRows.same {H H' : Hp} {p : Addr} {ps : List Addr} {rows : List (List (Option Int))} (h : HRows H p ps rows) (s : Same H H') : HRows H' p ps rows :=
  ⟨s _ _ h.at_, h.len, fun i q e r er => s _ _ (h.row i q e r er)⟩
theorem HRows.get {H : Hp} {p : Addr} {ps : List Addr} {n : Nat} {rows : List (List (Option Int))} (h : HRows H p ps rows) (sq : Square n rows) {a : Nat} (ha : a < n) :
    ∃ q ys, (ps.map V.ref)[a]? = some (V.ref q) ∧ q ∈ ps ∧ H q = some (.lst ys) ∧ ys.length = n ∧ ∀ b, b < n → ys[b]? = some (vO (at2 rows a b)) := by
  have har : a < rows.length := by rw [sq.1]; exact ha
  have hap : a < ps.length := by rw [h.len]; exact har
  have hr := sq.2 rows[a] (List.getElem_mem har)
  refine ⟨ps[a], rows[a].map vO, by rw [List.getElem?_map, List.getElem?_eq_getElem hap]; rfl, List.getElem_mem hap, h.row a _ (List.getElem?_eq_getElem hap) _ (List.getElem?_eq_getElem har), by rw [List.length_map]; exact hr, fun b hb => ?_⟩
  have hbr : b < rows[a].length := by omega
  rw [List.getElem?_map, List.getElem?_eq_getElem hbr]
  simp [at2, List.getElem?_eq_getElem har, List.getElem?_eq_getElem hbr]
theorem HRows.plen {H : Hp} {p : Addr} {ps : List Addr} {n : Nat} {rows : List (List (Option Int))} (h : HRows H p ps rows) (sq : Square n rows) : ps.length = n := by rw [h.len]; exact sq.1
theorem dp_ints {K : PySem.W.Frag} {H : Hp} {q : Addr} {l : List Int} (hq : SqL K H q (l.map V.int)) : Dp K H (.ref q) (.list (l.map PyData.int)) := .lst hq DpAll.ints
theorem eq_nilI {K : PySem.W.Frag} {H : Hp} {q o : Addr} {l : List Int} {Q : VK} (hq : SqL K H q (l.map V.int)) (ho : SqL K H o []) (h : Q (.bl l.isEmpty) H) : rEqD K (.ref q) (.ref o) H Q := by
  refine ⟨_, _, dp_ints hq, .lst ho .nil, (sh_list sh_int l).shaped (by decide), rfl, ?_⟩
  have e : PyData.eqv (.list (l.map PyData.int)) (.list []) = l.isEmpty := by cases l <;> rfl
  rw [e]; exact h
theorem fm_sums (n : Nat) (rows : List (List (Option Int))) (a b : Nat) : (List.range n).filterMap (fun c => if (c != a && c != b) = true then (plusO (at2 rows a c) (at2 rows c b)).map PyData.int else none) = (sumsR n rows a b).map PyData.int := by
  unfold sumsR
  generalize List.range n = L
  induction L with
  | nil => rfl
  | cons c L ih =>
    rw [List.filterMap_cons, List.filter_cons, ih]
    cases (c != a && c != b)
    · simp
    · simp only [if_pos]
      cases e : plusO (at2 rows a c) (at2 rows c b) <;> simp [e, List.filterMap_cons]
theorem fmi (l : List Int) (p : Int → Bool) : (List.range l.length).filterMap (fun i => (l[i]?).bind fun s => if p s = true then some (PyData.int s) else none) = (l.filter p).map PyData.int := by
  rw [fm_list, fm_if]
theorem pre_len (n : Nat) (rows : List (List (Option Int))) : ∀ i, ((List.range i).flatMap fun a => ((List.range n).filter fun b => a != b && (at2 rows a b).isSome).map fun b => (a, b)).length ≤ i * n
  | 0 => by simp
  | k + 1 => by
    have ih := pre_len n rows k
    rw [List.range_succ, List.flatMap_append, List.length_append, Nat.succ_mul]
    have := List.length_filter_le (fun b => k != b && (at2 rows k b).isSome) (List.range n)
    simp only [List.length_range] at this
    simp only [List.flatMap_cons, List.flatMap_nil, List.append_nil, List.length_map]
    omega
theorem ge_empty (L : List Int) (m : Int) : (L.filter fun s => decide (m ≤ s)).isEmpty = L.all fun s => decide (s < m) := by
  induction L with
  | nil => rfl
  | cons s L ih =>
    rw [List.filter_cons, List.all_cons, ← ih]
    by_cases h : m ≤ s
    · rw [decide_eq_true h, decide_eq_false (show ¬ s < m by omega)]; rfl
    · rw [decide_eq_false h, decide_eq_true (show s < m by omega)]; rfl
section
variable {K : PySem.W.Frag} {mg : Str → Option Value} (T : TX K mg) {vs : List V} {H : Hp} {Q : VK} {E : XK}

theorem rd_law_duration (h : sp_law_duration T vs H Q E) : t_law_duration T (rtE Q) (start N_law_duration vs) H := by
  unfold t_law_duration; walk_at "n"
  obtain ⟨b, g, k, rfl, hb, hk, q⟩ := h
  have hlim : lim = 1000000 := rfl
  have rest : ∀ H1 k1, But b H H1 → Box H1 b k1 → k1 ≤ k + 1 → ∃ v, (start N_law_duration [.ref b, .bl g])[0]? = some (some v) ∧ sp_law_take T ([v, .int 4] ++ []) H1 (fun x H1 => ∃ v, (start N_law_duration [.ref b, .bl g])[0]? = some (some v) ∧
      sp_law_take T ([v, .int 9] ++ []) H1 (fun y H1 => rAddI (.int 1) y H1 fun y H1 => ∃ v, (start N_law_duration [.ref b, .bl g])[0]? = some (some v) ∧ sp_law_take T ([v, .int 40] ++ []) H1 (fun z H1 => [V.int 0, .int 1, x, y, z].length ≤ sizeLine ∧ ∀ p, H1 p = none →
        ∃ v, (start N_law_duration [.ref b, .bl g])[0]? = some (some v) ∧ sp_law_take T ([v, .int 5] ++ []) (upd H1 p (.lst [V.int 0, .int 1, x, y, z])) (fun y H2 => rIxL K (.ref p) y H2 Q) E0) E0) E0) E0 := by
    intro H1 k1 s1 b1 hk1
    refine ⟨_, rfl, b, 4, k1, rfl, b1, by omega, by omega, by omega, fun H2 r2 s2 b2 h2 => ?_⟩
    refine ⟨_, rfl, b, 9, _, rfl, b2, by omega, by omega, by omega, fun H3 r3 s3 b3 h3 => ⟨_, _, rfl, rfl, ?_⟩⟩
    refine ⟨_, rfl, b, 40, _, rfl, b3, by omega, by omega, by omega, fun H4 r4 s4 b4 h4 => ⟨by show 5 ≤ sizeLine; decide, fun p np => ?_⟩⟩
    refine ⟨_, rfl, b, 5, _, rfl, b4.same (same_upd np), by omega, by omega, by omega, fun H5 r5 s5 b5 h5 => ?_⟩
    have s15 := (((s1.trans s2).trans s3).trans s4).upd_new (o := .lst [V.int 0, .int 1, .int r2, .int (1 + r3), .int r4]) np |>.trans s5
    have e5 : H5 p = some (.lst [V.int 0, .int 1, .int r2, .int (1 + r3), .int r4]) := s5 _ _ (b4.ne np) upd_same
    have fin : ∀ d : Int, 0 ≤ d → Q (.int d) H5 := fun d hd => q H5 d s15 (b5.mono (by omega)) hd
    have hr5 : r5 = 0 ∨ r5 = 1 ∨ r5 = 2 ∨ r5 = 3 ∨ r5 = 4 := by omega
    rcases hr5 with rfl | rfl | rfl | rfl | rfl
    · exact ⟨p, _, _, _, rfl, rfl, .of e5, atI_nat (j := 0) rfl, fin _ (by omega)⟩
    · exact ⟨p, _, _, _, rfl, rfl, .of e5, atI_nat (j := 1) rfl, fin _ (by omega)⟩
    · exact ⟨p, _, _, _, rfl, rfl, .of e5, atI_nat (j := 2) rfl, fin _ (by omega)⟩
    · exact ⟨p, _, _, _, rfl, rfl, .of e5, atI_nat (j := 3) rfl, fin _ (by omega)⟩
    · exact ⟨p, _, _, _, rfl, rfl, .of e5, atI_nat (j := 4) rfl, fin _ (by omega)⟩
  refine ⟨_, rfl, g, rfl, ?_⟩
  cases g with
  | false => exact iteF (iteF (rest H k (.refl _ _) hb (by omega)))
  | true =>
    refine iteT ⟨_, rfl, b, 2, k, rfl, hb, by omega, by omega, by omega, fun H1 r1 s1 b1 h1 => ⟨rfl, _, rfl, ?_⟩⟩
    by_cases hz : r1 = 0
    · subst hz
      refine iteT ?_
      refine ⟨_, _, rfl, rfl, ⟨by decide, by decide +kernel⟩, _, _, rfl, rfl, ⟨by decide, by decide +kernel⟩, _, rfl, _, _, rfl, rfl, ⟨by decide, by decide, by decide⟩, ?_⟩
      refine ⟨b, 1000000, _, rfl, b1, by omega, by omega, by omega, fun H2 r2 s2 b2 h2 => ⟨_, _, rfl, rfl, ?_⟩⟩
      refine q H2 _ (s1.trans s2) (b2.mono (by omega)) ?_
      exact Int.add_nonneg (by decide +kernel) (by omega)
    · have e0 : decide (V.int (r1 : Int) = V.int 0) = false := decide_eq_false fun z => by injection z with z; omega
      rw [e0]
      exact iteF (rest H1 _ s1 b1 (by omega))
theorem rd_law_pairs (h : sp_law_pairs T vs H Q E) : t_law_pairs T (rtE Q) (start N_law_pairs vs) H := by
  unfold t_law_pairs; walk_at "n"
  obtain ⟨p, ps, n, rows, rfl, hr, sq, h20, q⟩ := h
  have hpl := hr.plen sq
  refine ⟨Nat.zero_le _, fun f0 nf => ⟨_, rfl, p, _, rfl, .inl (.of (upd_at hr.at_ nf)), _, rfl, by rw [List.length_map]; omega, by rw [List.length_map]; omega, ?_⟩⟩
  have en : ((ps.map V.ref).length : Int).toNat = n := by rw [List.length_map]; omega
  rw [en]
  have s0 : Same H (upd H f0 (.lst [])) := same_upd nf
  refine for_it walk_range (fun i σ H' => ∃ f xs y2 y3, σ = [some (.ref p), some (.ref f), y2, y3] ∧ Same H H' ∧ H f = none ∧ H' f = some (.lst xs) ∧ DpAll K H' xs (((List.range i).flatMap fun a => ((List.range n).filter fun b => a != b && (at2 rows a b).isSome).map fun b => (a, b)).map e2) ∧ i ≤ n)
    ⟨f0, [], _, _, rfl, s0, nf, upd_same, .nil, Nat.zero_le _⟩ (fun _ _ _ _ _ => trivial) ?_ ?_
  · rintro i x σ H1 H2 hi ⟨f, xs, y2, y3, rfl, s1, nf1, ef, dx, hin⟩ ⟨rfl, rfl⟩
    walk_at "n"
    have ei : (0 : Int) + (i : Int) = ((i : Nat) : Int) := by omega
    have hr2 := hr.same s1
    rw [ei]
    refine ⟨_, rfl, lc_def ⟨_, rfl, p, _, rfl, .inl (.of hr2.at_), _, rfl, by rw [List.length_map]; omega, by rw [List.length_map]; omega, ?_⟩⟩
    rw [en]
    refine comp_rng (K := K) (fun b => if (i != b && (at2 rows i b).isSome) = true then some (e2 (i, b)) else none) (by omega) (fun b d _ e => ?_) ?_ ?_
    · split at e
      · cases e; rfl
      · cases e
    · intro b H3 hb s3 Qy Qn h1 h2
      walk_at "n"
      have eb : (0 : Int) + (b : Int) = ((b : Nat) : Int) := by omega
      rw [eb]
      refine ⟨rfl, _, rfl, _, rfl, rfl, _, rfl, ?_⟩
      by_cases hab : i = b
      · have e0 : decide (V.int (i : Int) = V.int (b : Int)) = true := by rw [hab]; exact decide_eq_true rfl
        rw [e0]
        refine iteF (iteF (h2 ?_ _ (Same.refl _)))
        simp [hab]
      · have e0 : decide (V.int (i : Int) = V.int (b : Int)) = false := decide_eq_false fun z => by injection z with z; omega
        rw [e0]
        obtain ⟨qa, ys, ea, _, ta, _, hb'⟩ := (hr2.same s3).get sq hi
        refine iteT ⟨_, rfl, _, rfl, p, _, _, .ref qa, rfl, rfl, .of (hr2.same s3).at_, atI_nat ea, _, rfl, qa, ys, _, _, rfl, rfl, .of ta, atI_nat (hb' b hb), rfl, _, rfl, ?_⟩
        rw [vO_non]
        cases hz : at2 rows i b with
        | none =>
          refine iteF (h2 ?_ _ (Same.refl _))
          simp [hz]
        | some m =>
          refine iteT ⟨_, rfl, _, rfl, by show 2 ≤ sizeLine; decide, fun t nt => ?_⟩
          refine h1 (e2 (i, b)) ?_ _ _ (same_upd nt) (.tup (.of upd_same) (.cons (.int _) (.cons (.int _) .nil)))
          simp [hz, hab]
    · intro D ys H3 sm hD hx hy
      rw [fm_if] at hy
      have hl1 : xs.length ≤ i * n := by
        rw [dx.length, List.length_map]
        exact pre_len n rows i
      have hl2 : ys.length ≤ n := by
        rw [hy.length, List.length_map]
        have := List.length_filter_le (fun b => i != b && (at2 rows i b).isSome) (List.range n)
        simpa using this
      have hnn : i * n ≤ 20 * 20 := Nat.mul_le_mul (by omega) h20
      refine ⟨f, D, xs, ys, rfl, rfl, sm _ _ ef, hx, Nat.le_of_lt (small_line (by omega)), fun g ng => ?_⟩
      refine ⟨g, xs ++ ys, _, _, rfl, (s1.trans sm).upd ng, (s1.trans sm).free ng, upd_same, ?_, by omega⟩
      rw [List.range_succ, List.flatMap_append, List.map_append]
      refine DpAll.same (same_upd ng) ((dx.same sm).append ?_)
      simp only [List.flatMap_cons, List.flatMap_nil, List.append_nil, List.map_map]
      exact hy
  · rintro σ H1 ⟨f, xs, y2, y3, rfl, s1, nf1, ef, dx, hin⟩
    exact ⟨_, rfl, q H1 f xs s1 nf1 ef dx⟩
end
end A69
end

section
set_option maxRecDepth 100000
set_option maxHeartbeats 1000000
/-! MP3: longest ways, event by event. -/
namespace MP
/-- a way whose inner events are below k -/
inductive WayK (acts : List Acty) (k : Nat) : Nat → Nat → Int → Prop
  | nil {a : Nat} : WayK acts k a a 0
  | one {a b : Nat} {d : Int} : (a, b, d) ∈ acts → WayK acts k a b d
  | comp {a c b : Nat} {l m : Int} : WayK acts k a c l → c < k → WayK acts k c b m → WayK acts k a b (l + m)
theorem WayK.way {acts : List Acty} {k a b : Nat} {l : Int} (h : WayK acts k a b l) : Way acts a b l := by
  induction h with
  | nil => exact .nil
  | one h => exact .one h
  | comp _ _ _ h1 h2 => exact h1.trans h2
theorem Way.loop {acts : List Acty} {r : Nat → Nat} (hr : Ranked acts r) {a : Nat} {l : Int} (h : Way acts a a l) : l = 0 := by
  rcases h.rank hr with ⟨_, e⟩ | e
  · exact e
  · omega
theorem WayK.split {acts : List Acty} {r : Nat → Nat} (hr : Ranked acts r) {k a b : Nat} {l : Int} (h : WayK acts (k + 1) a b l) :
    WayK acts k a b l ∨ ∃ l1 l2, WayK acts k a k l1 ∧ WayK acts k k b l2 ∧ l = l1 + l2 := by
  induction h with
  | nil => exact .inl .nil
  | one h => exact .inl (.one h)
  | @comp a c b l m _ hc _ ih1 ih2 =>
    have hck : c < k ∨ c = k := by omega
    rcases ih1 with h1 | ⟨x1, x2, h1, h2, e1⟩
    · rcases ih2 with g1 | ⟨y1, y2, g1, g2, e2⟩
      · rcases hck with z | z
        · exact .inl (.comp h1 z g1)
        · subst z; exact .inr ⟨l, m, h1, g1, rfl⟩
      · rcases hck with z | z
        · exact .inr ⟨l + y1, y2, .comp h1 z g1, g2, by omega⟩
        · subst z
          have := (g1.way).loop hr
          exact .inr ⟨l, y2, h1, g2, by omega⟩
    · rcases ih2 with g1 | ⟨y1, y2, g1, g2, e2⟩
      · rcases hck with z | z
        · exact .inr ⟨x1, x2 + m, h1, .comp h2 z g1, by omega⟩
        · subst z
          have := (h2.way).loop hr
          exact .inr ⟨x1, m, h1, g1, by omega⟩
      · have := (h2.way.trans g1.way).loop hr
        exact .inr ⟨x1, y2, h1, g2, by omega⟩
theorem Way.toK {acts : List Acty} {n : Nat} (hb : ∀ a b d, (a, b, d) ∈ acts → a < n ∧ b < n) {a b : Nat} {l : Int} (h : Way acts a b l) : WayK acts n a b l := by
  induction h with
  | nil => exact .nil
  | snoc _ hm ih => exact .comp ih (hb _ _ _ hm).1 (.one hm)
abbrev Tb := Nat → Nat → Option Int
def Sound (acts : List Acty) (f : Tb) : Prop := ∀ a b m, f a b = some m → Way acts a b m
def GeT (f g : Tb) : Prop := ∀ a b m, f a b = some m → ∃ m', g a b = some m' ∧ m ≤ m'
def Full (acts : List Acty) (n k : Nat) (f : Tb) : Prop := ∀ a b l, a < n → b < n → WayK acts k a b l → ∃ m, f a b = some m ∧ l ≤ m
def Via (k : Nat) (f g : Tb) (a b : Nat) : Prop := ∀ x y, f a k = some x → f k b = some y → ∃ m, g a b = some m ∧ x + y ≤ m
def updT (f : Tb) (i j : Nat) (v : Option Int) : Tb := fun a b => if a = i ∧ b = j then v else f a b
theorem GeT.refl (f : Tb) : GeT f f := fun a b m e => ⟨m, e, Int.le_refl m⟩
theorem GeT.trans {f g h : Tb} (x : GeT f g) (y : GeT g h) : GeT f h := fun a b m e => by
  obtain ⟨m1, e1, l1⟩ := x a b m e
  obtain ⟨m2, e2, l2⟩ := y a b m1 e1
  exact ⟨m2, e2, Int.le_trans l1 l2⟩
theorem Via.mono {k : Nat} {f g h : Tb} {a b : Nat} (v : Via k f g a b) (y : GeT g h) : Via k f h a b := fun p q e1 e2 => by
  obtain ⟨m, e, l⟩ := v p q e1 e2
  obtain ⟨m2, e3, l2⟩ := y a b m e
  exact ⟨m2, e3, Int.le_trans l l2⟩
theorem updT_ge {f : Tb} {i j : Nat} {s : Int} (h : ∀ m, f i j = some m → m ≤ s) : GeT f (updT f i j (some s)) := fun a b m e => by
  unfold updT
  by_cases z : a = i ∧ b = j
  · rw [if_pos z]; obtain ⟨rfl, rfl⟩ := z; exact ⟨s, rfl, h m e⟩
  · rw [if_neg z]; exact ⟨m, e, Int.le_refl m⟩
theorem updT_at (f : Tb) (i j : Nat) (v : Option Int) : updT f i j v i j = v := if_pos ⟨rfl, rfl⟩
theorem updT_sound {acts : List Acty} {f : Tb} {i j : Nat} {s : Int} (h : Sound acts f) (w : Way acts i j s) : Sound acts (updT f i j (some s)) := fun a b m e => by
  unfold updT at e
  by_cases z : a = i ∧ b = j
  · rw [if_pos z] at e; cases e; obtain ⟨rfl, rfl⟩ := z; exact w
  · rw [if_neg z] at e; exact h a b m e
theorem Full.step {acts : List Acty} {r : Nat → Nat} (hr : Ranked acts r) {n k : Nat} {f g : Tb} (h : Full acts n k f) (hk : k < n) (ge : GeT f g) (v : ∀ a b, a < n → b < n → Via k f g a b) : Full acts n (k + 1) g := by
  intro a b l ha hb w
  rcases w.split hr with w1 | ⟨l1, l2, w1, w2, e⟩
  · obtain ⟨m, e1, le⟩ := h a b l ha hb w1
    obtain ⟨m2, e2, le2⟩ := ge a b m e1
    exact ⟨m2, e2, Int.le_trans le le2⟩
  · obtain ⟨x, ex, lx⟩ := h a k l1 ha hk w1
    obtain ⟨y, ey, ly⟩ := h k b l2 hk hb w2
    obtain ⟨m, em, lm⟩ := v a b ha hb x y ex ey
    exact ⟨m, em, by omega⟩
def rowsF (n : Nat) (f : Tb) : List (List (Option Int)) := (List.range n).map fun a => (List.range n).map (f a)
theorem rowsF_at {n : Nat} {f : Tb} {a b : Nat} (ha : a < n) (hb : b < n) : at2 (rowsF n f) a b = f a b := by
  simp [at2, rowsF, ha, hb]
theorem Full.tab {acts : List Acty} {n : Nat} {f : Tb} (hb : ∀ a b d, (a, b, d) ∈ acts → a < n ∧ b < n) (h : Full acts n n f) (s : Sound acts f) : IsTab n acts (rowsF n f) := by
  refine ⟨by simp [rowsF], fun r hr => ?_, fun a b ha hb' => ?_⟩
  · simp only [rowsF, List.mem_map, List.mem_range] at hr
    obtain ⟨_, _, rfl⟩ := hr
    simp
  · rw [rowsF_at ha hb']
    exact ⟨fun l w => h a b l ha hb' (w.toK hb), fun m e => s a b m e⟩
/-- the table at the start, and behind some activities -/
def Begun (acts L : List Acty) (f : Tb) : Prop := Sound acts f ∧ (∀ a, ∃ m, f a a = some m ∧ 0 ≤ m) ∧ ∀ a b d, (a, b, d) ∈ L → ∃ m, f a b = some m ∧ d ≤ m
def start0 : Tb := fun a b => if a = b then some 0 else none
theorem Begun.start (acts : List Acty) : Begun acts [] start0 := by
  refine ⟨fun a b m e => ?_, fun a => ⟨0, if_pos rfl, Int.le_refl 0⟩, fun a b d h => nomatch h⟩
  unfold start0 at e
  by_cases z : a = b
  · rw [if_pos z] at e; cases e; subst z; exact .nil
  · rw [if_neg z] at e; cases e
theorem Begun.full {acts : List Acty} {n : Nat} {f : Tb} (h : Begun acts acts f) : Full acts n 0 f := by
  intro a b l _ _ w
  cases w with
  | nil => exact h.2.1 a
  | one hm => exact h.2.2 _ _ _ hm
  | comp _ hc _ => omega
theorem Begun.keep {acts L : List Acty} {f : Tb} {a b : Nat} {d : Int} (h : Begun acts L f) {m : Int} (e : f a b = some m) (hm : d ≤ m) : Begun acts (L ++ [(a, b, d)]) f := by
  refine ⟨h.1, h.2.1, fun x y z hz => ?_⟩
  rcases List.mem_append.mp hz with q | q
  · exact h.2.2 x y z q
  · rw [List.mem_singleton] at q
    cases q
    exact ⟨m, e, hm⟩
theorem Begun.put {acts L : List Acty} {f : Tb} {a b : Nat} {d : Int} (h : Begun acts L f) (hm : (a, b, d) ∈ acts) (e : ∀ m, f a b = some m → m ≤ d) : Begun acts (L ++ [(a, b, d)]) (updT f a b (some d)) := by
  have ge := updT_ge e
  refine ⟨updT_sound h.1 (.one hm), fun x => ?_, fun x y z hz => ?_⟩
  · obtain ⟨m, e1, l1⟩ := h.2.1 x
    obtain ⟨m2, e2, l2⟩ := ge x x m e1
    exact ⟨m2, e2, Int.le_trans l1 l2⟩
  · rcases List.mem_append.mp hz with q | q
    · obtain ⟨m, e1, l1⟩ := h.2.2 x y z q
      obtain ⟨m2, e2, l2⟩ := ge x y m e1
      exact ⟨m2, e2, Int.le_trans l1 l2⟩
    · rw [List.mem_singleton] at q
      cases q
      exact ⟨d, updT_at .., Int.le_refl _⟩
end MP
end

section
set_option maxRecDepth 100000
set_option maxHeartbeats 2000000
/-! LRd: readings of the law: times. -/
namespace A69
open PySem PySem.Spec PyProof.Rows L2 KX MP
local macro_rules | `(tactic| walk_at "n") => `(tactic| dsimp only [rtE, tRet, tAndV, tOrV, tNotV, tCB, tCons, tNil, tVar, tC, tOp, tUn, tChain, tTest, tB, tAnd, tOr, tNot, tIf, tIfS, tSeq, tAsg, tDrop, tNext, gName, tPar, tPar3, tTup, tLst, tCall, tBM, tBM0, tSl, tPart, tNoPart, gTup, gCons, gNil, gSub, iRng1, iRng2, iList, iTup, iEnumT, iRgV, tYes, tLstRg, tRg1])

def rowF (n : Nat) (g : Nat → Option Int) : List V := (List.range n).map fun b => vO (g b)
theorem rowF_len (n : Nat) (g : Nat → Option Int) : (rowF n g).length = n := by simp [rowF]
theorem rowF_get {n b : Nat} (g : Nat → Option Int) (hb : b < n) : (rowF n g)[b]? = some (vO (g b)) := by simp [rowF, hb]
theorem rowF_set {n j : Nat} (g : Nat → Option Int) (v : Option Int) : (rowF n g).set j (vO v) = rowF n (fun b => if b = j then v else g b) := by
  apply List.ext_getElem (by simp [rowF])
  intro i h1 h2
  rw [List.getElem_set]
  simp only [rowF, List.getElem_map, List.getElem_range]
  by_cases z : j = i
  · rw [if_pos z, if_pos z.symm]
  · rw [if_neg z, if_neg (Ne.symm z)]
/-- a table of lists on the heap -/
structure FHp (H H' : Hp) (p : Addr) (ps : List Addr) (n : Nat) (f : Tb) : Prop where
  same : Same H H'
  np : H p = none
  nq : ∀ q ∈ ps, H q = none
  hp : H' p = some (.lst (ps.map V.ref))
  len : ps.length = n
  nd : ps.Nodup
  out : p ∉ ps
  row : ∀ i q, ps[i]? = some q → H' q = some (.lst (rowF n (f i)))
theorem FHp.get {H H' : Hp} {p : Addr} {ps : List Addr} {n : Nat} {f : Tb} (h : FHp H H' p ps n f) {a : Nat} (ha : a < n) : ∃ q, ps[a]? = some q ∧ (ps.map V.ref)[a]? = some (V.ref q) ∧ H' q = some (.lst (rowF n (f a))) := by
  have hap : a < ps.length := by rw [h.len]; exact ha
  have e := List.getElem?_eq_getElem hap
  exact ⟨ps[a], e, by rw [List.getElem?_map, e]; rfl, h.row _ _ e⟩
theorem FHp.set {H H' : Hp} {p : Addr} {ps : List Addr} {n : Nat} {f : Tb} (h : FHp H H' p ps n f) {i j : Nat} {q : Addr} (e : ps[i]? = some q) (v : Option Int) :
    FHp H (upd H' q (.lst ((rowF n (f i)).set j (vO v)))) p ps n (updT f i j v) := by
  have hm : q ∈ ps := List.mem_of_getElem? e
  refine ⟨h.same.set (h.nq q hm), h.np, h.nq, ?_, h.len, h.nd, h.out, fun i' q' e' => ?_⟩
  · have hpq : p ≠ q := fun z => h.out (by rw [z]; exact hm)
    rw [upd_ne hpq]; exact h.hp
  · by_cases z : i' = i
    · subst z
      rw [e] at e'; cases e'
      rw [upd_same, rowF_set]
      congr 3
      funext b
      simp only [updT]
      by_cases zb : b = j
      · simp [zb]
      · simp [zb]
    · have hq : q' ≠ q := fun zq => by
        subst zq
        obtain ⟨h1, e1⟩ := List.getElem?_eq_some_iff.mp e
        obtain ⟨h2, e2⟩ := List.getElem?_eq_some_iff.mp e'
        exact z ((List.getElem_inj h.nd).mp (e2.trans e1.symm))
      rw [upd_ne hq, h.row _ _ e']
      congr 3
      funext b
      simp [updT, z]
theorem FHp.hrows {H H' : Hp} {p : Addr} {ps : List Addr} {n : Nat} {f : Tb} (h : FHp H H' p ps n f) : HRows H' p ps (rowsF n f) := by
  refine ⟨h.hp, by simp [rowsF, h.len], fun i q e r er => ?_⟩
  rw [h.row i q e]
  obtain ⟨h1, e1⟩ := List.getElem?_eq_some_iff.mp er
  simp only [rowsF, List.getElem_map, List.getElem_range] at e1
  rw [← e1, rowF, List.map_map]; rfl
theorem FHp.new {H H' : Hp} {p : Addr} {ps : List Addr} {n : Nat} {f : Tb} (h : FHp H H' p ps n f) {t : Addr} {o : HO} (nt : H' t = none) : FHp H (upd H' t o) p ps n f :=
  ⟨h.same.upd nt, h.np, h.nq, upd_at h.hp nt, h.len, h.nd, h.out, fun i q e => upd_at (h.row i q e) nt⟩
/-- how far the turn by k is done: all rows before i, and of row i all before j -/
def Done (n k : Nat) (f0 f : Tb) (i j : Nat) : Prop := GeT f0 f ∧ ∀ a b, a < n → b < n → (a < i ∨ (a = i ∧ b < j)) → Via k f0 f a b
section
variable {K : PySem.W.Frag} {mg : Str → Option Value} (T : TX K mg) {vs : List V} {H : Hp} {Q : VK} {E : XK}

theorem rd_law_times (h : sp_law_times T vs H Q E) : t_law_times T (rtE Q) (start N_law_times vs) H := by
  unfold t_law_times; walk_at "n"
  obtain ⟨n, v, acts, rfl, hd, hg, ⟨r, hr⟩, q⟩ := h
  have h20 := hg.n20
  have en : ((n : Int)).toNat = n := by omega
  obtain ⟨pa, xa, rfl, hsa, hda⟩ := hd.tup_inv
  have hla : xa.length = acts.length := by rw [hda.length, List.length_map]
  have hbd : ∀ a b d, (a, b, d) ∈ acts → a < n ∧ b < n := fun a b d hm => ⟨(hg.ev a b d hm).1, (hg.ev a b d hm).2.1⟩
  refine lc_def ⟨_, rfl, _, rfl, by omega, by omega, ?_⟩
  rw [en]
  refine comp_new (n := n) (fun i => rowF n (start0 i)) (by omega) ?_ ?_
  · intro i H1 hi s1 Qy Qn h1
    walk_at "n"
    have ei : (0 : Int) + (i : Int) = ((i : Nat) : Int) := by omega
    rw [ei]
    refine ⟨rfl, iteT (lc_def ⟨_, rfl, _, rfl, by omega, by omega, ?_⟩)⟩
    rw [en]
    refine comp_rng (K := K) (fun b => some (eO (start0 i b))) (by omega) (fun b d _ e => by cases e; exact flat_eO _) ?_ ?_
    · intro b H2 hb s2 Qy2 Qn2 k1 k2
      walk_at "n"
      have eb : (0 : Int) + (b : Int) = ((b : Nat) : Int) := by omega
      rw [eb]
      refine ⟨rfl, iteT ⟨_, rfl, _, rfl, rfl, _, rfl, ?_⟩⟩
      by_cases hab : i = b
      · have e0 : decide (V.int (i : Int) = V.int (b : Int)) = true := by rw [hab]; exact decide_eq_true rfl
        rw [e0]
        refine iteT (k1 _ rfl _ _ (Same.refl _) ?_)
        rw [show start0 i b = some 0 from if_pos hab]; exact .int _
      · have e0 : decide (V.int (i : Int) = V.int (b : Int)) = false := decide_eq_false fun z => by injection z with z; omega
        rw [e0]
        refine iteF (k1 _ rfl _ _ (Same.refl _) ?_)
        rw [show start0 i b = none from if_neg hab]; exact .non
    · intro D ys H2 sm hD hx hy
      rw [fm_some, show (List.range n).map (fun b => eO (start0 i b)) = ((List.range n).map (start0 i)).map eO from by rw [List.map_map]; rfl] at hy
      have ey := hy.os_inv
      refine h1 D H2 sm hD ?_
      rw [hx, ey, rowF, List.map_map]; rfl
  intro p ps H1 s1 np hp hlp hnd hfr hrow
  have F0 : FHp H H1 p ps n start0 := ⟨s1, np, fun q hq => (hfr q hq).1, hp, hlp, hnd, fun z => (hfr p z).2 rfl, hrow⟩
  -- the activities
  refine ⟨_, rfl, pa, rfl, ⟨_, s1.tup hsa⟩, ?_⟩
  refine for_it (walk_tup (xs := xa)) (fun i σ H' => ∃ f y4 y5 y6, σ = [some (.int n), some (.ref pa), some (.ref p), none, y4, y5, y6, none, none, none] ∧ FHp H H' p ps n f ∧ Begun acts (acts.take i) f)
    ⟨start0, _, _, _, rfl, F0, Begun.start acts⟩ (fun i σ H' _ z => by obtain ⟨_, _, _, _, _, z, _⟩ := z; exact z.same.tup hsa) ?_ ?_
  · rintro i x σ H2 H3 hi ⟨f, y4, y5, y6, rfl, hF, hB⟩ ⟨rfl, ex⟩
    obtain ⟨dx, e1, hx⟩ := hda.getV ex
    rw [List.getElem?_map] at e1
    have hi' : i < acts.length := by omega
    rw [List.getElem?_eq_getElem hi'] at e1
    cases e1
    have hmem : acts[i] ∈ acts := List.getElem_mem hi'
    have htk : acts.take (i + 1) = acts.take i ++ [acts[i]] := List.take_succ_eq_append_getElem hi'
    generalize acts[i] = o at *
    obtain ⟨a, b, d⟩ := o
    obtain ⟨t, ts, rfl, ht', ha⟩ := hx.tup_inv
    cases ha with
    | cons g1 g2 =>
    cases g2 with
    | cons g3 g4 =>
    cases g4 with
    | cons g5 g6 =>
    cases g6
    cases g1.int_inv
    cases g3.int_inv
    cases g5.int_inv
    obtain ⟨han, hbn, _, _⟩ := hg.ev _ _ _ hmem
    obtain ⟨qa, eq1, eq2, eq3⟩ := hF.get han
    walk_at "n"
    refine ⟨t, _, rfl, hF.same.tup ht', rfl, _, _, rfl, _, _, rfl, _, _, rfl, rfl, ?_⟩
    refine ⟨_, rfl, _, rfl, p, _, _, _, rfl, rfl, .of hF.hp, atI_nat eq2, _, rfl, qa, _, _, _, rfl, rfl, .of eq3, atI_nat (rowF_get (f a) hbn), rfl, _, rfl, ?_⟩
    rw [vO_non]
    have hset : ∀ H', H' = upd H3 qa (.lst ((rowF n (f a)).set b (V.int d))) → FHp H H' p ps n (updT f a b (some d)) := fun H' e => by rw [e]; exact hF.set eq1 (some d)
    cases hz : f a b with
    | none =>
      refine iteT (iteT ⟨_, rfl, _, rfl, _, rfl, p, _, _, _, rfl, rfl, .of hF.hp, atI_nat eq2, _, rfl, qa, _, _, b, rfl, rfl, eq3, ixN_nat (by rw [rowF_len]; exact hbn), ?_⟩)
      refine ⟨updT f a b (some d), _, _, _, rfl, hset _ rfl, ?_⟩
      rw [htk]
      exact hB.put hmem fun m e => by rw [hz] at e; cases e
    | some m =>
      refine iteF ⟨_, rfl, _, rfl, _, rfl, p, _, _, _, rfl, rfl, .of hF.hp, atI_nat eq2, _, rfl, qa, _, _, _, rfl, rfl, .of eq3, atI_nat (by rw [rowF_get (f a) hbn, hz]; rfl), _, _, rfl, rfl, _, rfl, ?_⟩
      by_cases hlt : d > m
      · rw [decide_eq_true hlt]
        refine iteT ⟨_, rfl, _, rfl, _, rfl, p, _, _, _, rfl, rfl, .of hF.hp, atI_nat eq2, _, rfl, qa, _, _, b, rfl, rfl, eq3, ixN_nat (by rw [rowF_len]; exact hbn), ?_⟩
        refine ⟨updT f a b (some d), _, _, _, rfl, hset _ rfl, ?_⟩
        rw [htk]
        exact hB.put hmem fun m' e => by rw [hz] at e; cases e; omega
      · rw [decide_eq_false hlt]
        refine iteF ⟨f, _, _, _, rfl, hF, ?_⟩
        rw [htk]
        exact hB.keep hz (by omega)
  rintro σ H2 ⟨f1, y4, y5, y6, rfl, hF1, hB1⟩
  rw [hla, List.take_length] at hB1
  -- event by event
  refine ⟨_, rfl, _, rfl, by omega, by omega, ?_⟩
  rw [en]
  refine for_it walk_range (fun k σ H' => ∃ f y3 y7 y8 y9, σ = [some (.int n), some (.ref pa), some (.ref p), y3, y4, y5, y6, y7, y8, y9] ∧ FHp H H' p ps n f ∧ Sound acts f ∧ Full acts n k f)
    ⟨f1, _, _, _, _, rfl, hF1, hB1.1, hB1.full⟩ (fun _ _ _ _ _ => trivial) ?_ ?_
  · rintro k x σ H3 H4 hk ⟨f, y3, y7, y8, y9, rfl, hF, hS, hL⟩ ⟨rfl, rfl⟩
    have ek : (0 : Int) + (k : Int) = ((k : Nat) : Int) := by omega
    walk_at "n"
    rw [ek]
    refine ⟨_, rfl, p, rfl, ⟨_, .of hF.hp⟩, ?_⟩
    refine for_it (walk_list (xs := ps.map V.ref)) (fun i σ H' => ∃ g y7 y8 y9, σ = [some (.int n), some (.ref pa), some (.ref p), some (.int (k : Int)), y4, y5, y6, y7, y8, y9] ∧ FHp H H' p ps n g ∧ Sound acts g ∧ Done n k f g i 0)
      ⟨f, _, _, _, rfl, hF, hS, GeT.refl f, fun a b _ _ z => by omega⟩ (fun i σ H' _ z => by obtain ⟨_, _, _, _, _, z, _⟩ := z; exact .of z.hp) ?_ ?_
    · rintro i x σ H5 H6 hi ⟨g, y7, y8, y9, rfl, hG, gS, gD⟩ ⟨rfl, ex⟩
      rw [List.length_map, hlp] at hi
      obtain ⟨qi, ei1, ei2, _⟩ := hG.get hi
      cases ei2.symm.trans ex
      walk_at "n"
      refine ⟨_, rfl, _, rfl, by omega, by omega, ?_⟩
      rw [en]
      refine for_it walk_range (fun j σ H' => ∃ g y8 y9, σ = [some (.int n), some (.ref pa), some (.ref p), some (.int (k : Int)), y4, y5, y6, some (.ref qi), y8, y9] ∧ FHp H H' p ps n g ∧ Sound acts g ∧ Done n k f g i j)
        ⟨g, _, _, rfl, hG, gS, gD⟩ (fun _ _ _ _ _ => trivial) ?_ ?_
      · rintro j x σ H7 H8 hj ⟨g, y8, y9, rfl, hG, gS, gD⟩ ⟨rfl, rfl⟩
        have ej : (0 : Int) + (j : Int) = ((j : Nat) : Int) := by omega
        obtain ⟨qk, ek1, ek2, ek3⟩ := hG.get hk
        have ei3 := hG.row i qi ei1
        have stay : (∀ x y, f i k = some x → f k j = some y → ∃ m, g i j = some m ∧ x + y ≤ m) → Done n k f g i (j + 1) := fun h => by
          refine ⟨gD.1, fun a b ha hb z => ?_⟩
          by_cases zz : a = i ∧ b = j
          · obtain ⟨rfl, rfl⟩ := zz; exact h
          · exact gD.2 a b ha hb (by omega)
        walk_at "n"
        rw [ej]
        refine ⟨_, rfl, _, rfl, qi, _, _, _, rfl, rfl, .of ei3, atI_nat (rowF_get (g i) hk), rfl, _, rfl, ?_⟩
        rw [vO_non]
        cases hz1 : g i k with
        | none =>
          refine iteF (iteF ⟨g, _, _, rfl, hG, gS, stay fun x y e1 _ => ?_⟩)
          obtain ⟨m, e, _⟩ := gD.1 i k x e1
          rw [hz1] at e; cases e
        | some s1 =>
          refine iteT ⟨_, rfl, _, rfl, p, _, _, _, rfl, rfl, .of hG.hp, atI_nat ek2, _, rfl, qk, _, _, _, rfl, rfl, .of ek3, atI_nat (rowF_get (g k) hj), rfl, _, rfl, ?_⟩
          rw [vO_non]
          cases hz2 : g k j with
          | none =>
            refine iteF ⟨g, _, _, rfl, hG, gS, stay fun x y _ e2 => ?_⟩
            obtain ⟨m, e, _⟩ := gD.1 k j y e2
            rw [hz2] at e; cases e
          | some s2 =>
            refine iteT ⟨_, rfl, _, rfl, qi, _, _, _, rfl, rfl, .of ei3, atI_nat (by rw [rowF_get (g i) hk, hz1]; rfl), _, rfl, _, rfl, p, _, _, _, rfl, rfl, .of hG.hp, atI_nat ek2, _, rfl, qk, _, _, _, rfl, rfl, .of ek3, atI_nat (by rw [rowF_get (g k) hj, hz2]; rfl), _, _, rfl, rfl, ?_⟩
            refine ⟨_, rfl, _, rfl, qi, _, _, _, rfl, rfl, .of ei3, atI_nat (rowF_get (g i) hj), rfl, _, rfl, ?_⟩
            rw [vO_non]
            have low : ∀ x y, f i k = some x → f k j = some y → x + y ≤ s1 + s2 := fun x y e1 e2 => by
              obtain ⟨m1, a1, l1⟩ := gD.1 i k x e1
              obtain ⟨m2, a2, l2⟩ := gD.1 k j y e2
              rw [hz1] at a1; cases a1
              rw [hz2] at a2; cases a2
              omega
            have go : (∀ m, g i j = some m → m ≤ s1 + s2) → ∀ H', H' = upd H8 qi (.lst ((rowF n (g i)).set j (V.int (s1 + s2)))) → FHp H H' p ps n (updT g i j (some (s1 + s2))) ∧ Sound acts (updT g i j (some (s1 + s2))) ∧ Done n k f (updT g i j (some (s1 + s2))) i (j + 1) := fun hm H' e => by
              have ge := updT_ge hm
              refine ⟨by rw [e]; exact hG.set ei1 (some (s1 + s2)), updT_sound gS ((gS _ _ _ hz1).trans (gS _ _ _ hz2)), gD.1.trans ge, fun a b ha hb z => ?_⟩
              by_cases zz : a = i ∧ b = j
              · obtain ⟨rfl, rfl⟩ := zz
                exact fun x y e1 e2 => ⟨s1 + s2, updT_at .., low x y e1 e2⟩
              · exact (gD.2 a b ha hb (by omega)).mono ge
            cases hz3 : g i j with
            | none =>
              refine iteT (iteT ⟨_, rfl, _, rfl, _, rfl, qi, _, _, j, rfl, rfl, ei3, ixN_nat (by rw [rowF_len]; exact hj), ?_⟩)
              have w := go (fun m e => by rw [hz3] at e; cases e) _ rfl
              exact ⟨_, _, _, rfl, w.1, w.2.1, w.2.2⟩
            | some m =>
              refine iteF ⟨_, rfl, _, rfl, _, rfl, qi, _, _, _, rfl, rfl, .of ei3, atI_nat (by rw [rowF_get (g i) hj, hz3]; rfl), _, _, rfl, rfl, _, rfl, ?_⟩
              by_cases hlt : s1 + s2 > m
              · rw [decide_eq_true hlt]
                refine iteT ⟨_, rfl, _, rfl, _, rfl, qi, _, _, j, rfl, rfl, ei3, ixN_nat (by rw [rowF_len]; exact hj), ?_⟩
                have w := go (fun m' e => by rw [hz3] at e; cases e; omega) _ rfl
                exact ⟨_, _, _, rfl, w.1, w.2.1, w.2.2⟩
              · rw [decide_eq_false hlt]
                refine iteF ⟨g, _, _, rfl, hG, gS, stay fun x y e1 e2 => ⟨m, hz3, ?_⟩⟩
                have := low x y e1 e2
                omega
      · rintro σ H7 ⟨g, y8, y9, rfl, hG, gS, gD⟩
        exact ⟨g, _, _, _, rfl, hG, gS, gD.1, fun a b ha hb z => gD.2 a b ha hb (by omega)⟩
    · rintro σ H5 ⟨g, y7, y8, y9, rfl, hG, gS, gD⟩
      rw [List.length_map, hlp] at gD
      exact ⟨g, _, _, _, _, rfl, hG, gS, hL.step hr hk gD.1 fun a b ha hb => gD.2 a b ha hb (.inl ha)⟩
  · rintro σ H3 ⟨f, y3, y7, y8, y9, rfl, hF, hS, hL⟩
    exact ⟨_, rfl, q H3 p ps _ hF.same hF.hrows hF.np hF.nq (hL.tab hbd hS)⟩
end
end A69
end

section
set_option maxRecDepth 100000
set_option maxHeartbeats 2000000
/-! LRe: readings of the law: own reduced plans. -/
namespace A69
open PySem PySem.Spec PyProof.Rows L2 KX MP
local macro_rules | `(tactic| walk_at "n") => `(tactic| dsimp only [rtE, tRet, tAndV, tOrV, tNotV, tCB, tCons, tNil, tVar, tC, tOp, tUn, tChain, tTest, tB, tAnd, tOr, tNot, tIf, tIfS, tSeq, tAsg, tDrop, tNext, gName, tPar, tPar3, tTup, tLst, tCall, tBM, tBM0, tSl, tPart, tNoPart, gTup, gCons, gNil, gSub, iRng1, iRng2, iList, iTup, iEnumT, iRgV, tYes, tLstRg, tRg1])

theorem sort_tuple {K : PySem.W.Frag} {H : Hp} {a : Addr} {xs : List V} {acts : List Acty} {Q : VK} (hs : SqL K H a xs) (hd : DpAll K H xs (acts.map eA))
    (q : ∀ H' v, Same H H' → Dp K H' v (eAs (acts.mergeSort leA)) → Q v H') : rSortedD K [.ref a] H fun x H1 => rTupleOf K [x] H1 Q := by
  refine ⟨a, xs, acts.map toL, rfl, hs, tup3_of hd, fun ns hm => ?_, fun ys p np hp => ?_⟩
  · obtain ⟨b, _, rfl⟩ := List.mem_map.mp hm
    exact List.cons_ne_nil _ _
  · have em : (acts.map toL).mergeSort leL = (acts.mergeSort leA).map toL := (List.map_mergeSort (r := leA) (s := leL) (f := toL) (l := acts) (fun a _ b _ => rfl)).symm
    rw [em] at hp
    have hy := of_tup3 hp
    have s1 : Same H (upd H p (.lst ys)) := same_upd np
    refine ⟨p, ys, rfl, .inl ⟨.of upd_same, fun t nt => ?_⟩⟩
    exact q _ _ (s1.upd nt) (.tup (.of upd_same) (hy.same (s1.upd nt)))
theorem flat_e2s (l : List (Nat × Nat)) : flatAll (l.map e2) = true := flatAll_map (fun _ => rfl) l
section
variable {K : PySem.W.Frag} {mg : Str → Option Value} (T : TX K mg) {vs : List V} {H : Hp} {Q : VK} {E : XK}

theorem rd_law_reduced (h : sp_law_reduced T vs H Q E) : t_law_reduced T (rtE Q) (start N_law_reduced vs) H := by
  unfold t_law_reduced; walk_at "n"
  obtain ⟨v, n, acts, rfl, hd, hv, q⟩ := h
  obtain ⟨pp, w, rfl, hp, hw⟩ := eP_inv hd
  have h20 := hv.good.n20
  have en : ((n : Int)).toNat = n := by omega
  refine ⟨_, rfl, pp, _, 0, _, rfl, rfl, hp, atI_nat (j := 0) rfl, _, rfl, pp, _, 1, _, rfl, rfl, hp, atI_nat (j := 1) rfl, ?_⟩
  refine ⟨n, w, acts, rfl, hw, hv.good, hv.rank, fun H1 p ps rows s1 hR np nps hT => ?_⟩
  have sq := A69.IsTab.square hT
  have hlp := pairsR_len n rows
  have h400 : n * n ≤ 20 * 20 := Nat.mul_le_mul h20 h20
  refine ⟨Nat.zero_le _, fun f nf => ⟨_, rfl, p, ps, n, rows, rfl, hR.same (same_upd nf), sq, h20, fun H3 g pxs s3 ng eg dg => ?_⟩⟩
  have sf := same_upd (o := .lst []) nf
  have f3 := s3 _ _ (upd_same (H := H1) (a := f) (o := .lst []))
  have hgf : g ≠ f := fun z => by rw [z, upd_same] at ng; cases ng
  refine ⟨g, rfl, ⟨_, .of eg⟩, ?_⟩
  have hlg : pxs.length = (pairsR n rows).length := by rw [dg.length, List.length_map]
  refine for_it (walk_list (xs := pxs)) (fun i σ H' => ∃ xs y3 y4 y5, σ = [some (.ref pp), some (.ref p), some (.ref f), y3, y4, y5, none, none] ∧ Same H1 H' ∧ H' g = some (.lst pxs) ∧ DpAll K H' pxs ((pairsR n rows).map e2) ∧ H' f = some (.lst xs) ∧
      DpAll K H' xs (((((pairsR n rows).take i).filter (tight n rows)).map (withD rows)).map eA))
    ⟨[], _, _, _, rfl, sf.trans s3, eg, dg, f3, .nil⟩ (fun i σ H' _ z => by obtain ⟨_, _, _, _, _, _, z, _⟩ := z; exact .of z) ?_ ?_
  · rintro i x σ H4 H5 hi ⟨xs, y3, y4, y5, rfl, s4, g4, dg4, f4, dx4⟩ ⟨rfl, ex⟩
    obtain ⟨a, b, t, z, rfl, ht'⟩ := pairs_get dg4 ex
    obtain ⟨han, hbn, hab, hsome⟩ := mem_pairsR.mp (List.mem_of_getElem? z)
    obtain ⟨m, em⟩ : ∃ m, at2 rows a b = some m := Option.isSome_iff_exists.mp hsome
    have hR4 := hR.same s4
    obtain ⟨qa, ya, ea, _, ta, _, hya⟩ := hR4.get sq han
    walk_at "n"
    refine ⟨t, _, rfl, ht', rfl, _, _, rfl, _, _, rfl, rfl, ?_⟩
    refine lc_def ⟨_, rfl, pp, _, 0, _, rfl, rfl, (s1.trans s4).tup hp, atI_nat (j := 0) rfl, _, rfl, by omega, by omega, ?_⟩
    rw [en]
    refine comp_rng (K := K) (fun c => if (c != a && c != b) = true then (plusO (at2 rows a c) (at2 rows c b)).map PyData.int else none) (by omega) (fun c d _ e => ?_) ?_ ?_
    · split at e
      · cases zz : plusO (at2 rows a c) (at2 rows c b) with
        | none => rw [zz] at e; cases e
        | some o => rw [zz] at e; cases e; rfl
      · cases e
    · intro c H6 hc s6 Qy Qn h1 h2
      walk_at "n"
      have ec : (0 : Int) + (c : Int) = ((c : Nat) : Int) := by omega
      rw [ec]
      refine ⟨rfl, _, rfl, _, rfl, _, rfl, by show 2 ≤ sizeLine; decide, fun u nu => ⟨u, _, rfl, .inr (.of upd_same), rfl, rfl, ?_⟩⟩
      have s7 : Same H6 (upd H6 u (.tup [V.int a, V.int b])) := same_upd nu
      have hR7 := hR.same ((s4.trans s6).trans s7)
      rw [inV2, if_pos rfl, Bool.not_not]
      by_cases hcc : (c != a && c != b) = true
      · rw [hcc]
        rw [if_pos hcc] at h1 h2
        obtain ⟨q1, zs, ez, _, tz, _, hzc⟩ := hR7.get sq hc
        obtain ⟨q2, as, ea2, _, ta2, _, hac⟩ := hR7.get sq han
        refine ⟨_, rfl, iteT ⟨_, rfl, _, rfl, p, _, _, .ref q2, rfl, rfl, .of hR7.at_, atI_nat ea2, _, rfl, q2, as, _, _, rfl, rfl, .of ta2, atI_nat (hac c hc), rfl, _, rfl, ?_⟩⟩
        have eac := hac c hc
        have ezc := hzc b hbn
        rw [vO_non]
        cases zx : at2 rows a c with
        | none => exact iteF (iteF (h2 (by rw [zx]; rfl) _ s7))
        | some x1 =>
          rw [zx] at h1 h2 eac
          refine iteT ⟨_, rfl, _, rfl, p, _, _, .ref q1, rfl, rfl, .of hR7.at_, atI_nat ez, _, rfl, q1, zs, _, _, rfl, rfl, .of tz, atI_nat ezc, rfl, _, rfl, ?_⟩
          rw [vO_non]
          cases zy : at2 rows c b with
          | none => exact iteF (h2 (by rw [zy]; rfl) _ s7)
          | some x2 =>
            rw [zy] at h1 h2 ezc
            refine iteT ⟨_, rfl, _, rfl, p, _, _, .ref q2, rfl, rfl, .of hR7.at_, atI_nat ea2, _, rfl, q2, as, _, _, rfl, rfl, .of ta2, atI_nat eac, ?_⟩
            refine ⟨_, rfl, _, rfl, p, _, _, .ref q1, rfl, rfl, .of hR7.at_, atI_nat ez, _, rfl, q1, zs, _, _, rfl, rfl, .of tz, atI_nat ezc, ?_⟩
            exact ⟨_, _, rfl, rfl, h1 _ rfl _ _ s7 (.int _)⟩
      · have hcc' : (c != a && c != b) = false := by simpa using hcc
        rw [hcc']
        exact ⟨_, rfl, iteF (iteF (h2 (by rw [if_neg hcc]) _ s7))⟩
    · intro D ys H6 sm hD hx hy
      rw [fm_sums] at hy
      have ey := hy.ints_inv
      generalize hL : sumsR n rows a b = L at ey
      have hlL : L.length ≤ n := by
        rw [← hL]
        unfold sumsR
        refine Nat.le_trans (List.length_filterMap_le _ _) ?_
        rw [List.length_map]
        have := List.length_filter_le (fun c => c != a && c != b) (List.range n)
        simpa using this
      subst ey
      refine lc_def ⟨_, rfl, D, rfl, ⟨_, .of hx⟩, ?_⟩
      have eab := hya b hbn
      rw [em] at eab
      refine comp_lst (K := K) (xs := L.map V.int) (.of hx) (fun i => (L[i]?).bind fun s => if decide (m ≤ s) = true then some (PyData.int s) else none) (by rw [List.length_map]; omega) (fun i d _ e => ?_) ?_ ?_
      · cases zz : L[i]? with
        | none => rw [zz] at e; cases e
        | some o =>
          rw [zz] at e
          dsimp only [Option.bind] at e
          split at e
          · cases e; rfl
          · cases e
      · intro k x H7 ex s7 Qy Qn h1 h2
        rw [List.getElem?_map] at ex
        cases zz : L[k]? with
        | none => rw [zz] at ex; cases ex
        | some s =>
          rw [zz] at ex
          cases ex
          rw [zz] at h1 h2
          dsimp only [Option.bind] at h1 h2
          walk_at "n"
          have sm7 := sm.trans s7
          refine ⟨rfl, _, rfl, _, rfl, _, rfl, p, _, _, .ref qa, rfl, rfl, .of (sm7 _ _ hR4.at_), atI_nat ea, _, rfl, qa, _, _, _, rfl, rfl, .of (sm7 _ _ ta), atI_nat eab, _, _, rfl, rfl, _, rfl, ?_⟩
          by_cases hge : s ≥ m
          · have hge' : decide (m ≤ s) = true := decide_eq_true hge
            rw [hge'] at h1
            rw [decide_eq_true hge]
            exact iteT ⟨_, rfl, h1 _ (if_pos rfl) _ _ (Same.refl _) (.int _)⟩
          · have hge' : decide (m ≤ s) = false := decide_eq_false hge
            rw [hge'] at h2
            rw [decide_eq_false hge]
            exact iteF (h2 (if_neg (fun z => nomatch z)) _ (Same.refl _))
      · intro D2 zs H7 sm7 hD7 hx7 hy7
        rw [List.length_map, fmi] at hy7
        have ez := hy7.ints_inv
        subst ez
        refine ⟨Nat.zero_le _, fun o no => ?_⟩
        refine eq_nilI (.of (upd_at hx7 no)) (.of upd_same) ⟨_, rfl, ?_⟩
        have et : (L.filter fun s => decide (m ≤ s)).isEmpty = tight n rows (a, b) := by rw [ge_empty, ← hL, tight_sums em]
        rw [et]
        have s58 : Same H5 (upd H7 o (.lst [])) := (sm.trans sm7).upd no
        have htk : (pairsR n rows).take (i + 1) = (pairsR n rows).take i ++ [(a, b)] := by
          obtain ⟨h1, h2⟩ := List.getElem?_eq_some_iff.mp z
          rw [List.take_succ_eq_append_getElem h1, h2]
        have hlx : xs.length ≤ n * n := by
          have h1 := (List.length_filter_le (tight n rows) ((pairsR n rows).take i))
          rw [dx4.length, List.length_map, List.length_map]
          rw [List.length_take] at h1
          omega
        cases htt : tight n rows (a, b) with
        | false =>
          refine iteF ⟨xs, _, _, _, rfl, s4.trans s58, s58 _ _ g4, dg4.same s58, s58 _ _ f4, ?_⟩
          rw [htk, List.filter_append, List.filter_cons, htt, List.filter_nil]
          simp only [Bool.false_eq_true, if_false, List.append_nil]
          exact dx4.same s58
        | true =>
          refine iteT ⟨_, rfl, .inl ⟨rfl, _, .inl (.inl (s58 _ _ f4))⟩, _, rfl, _, rfl, _, rfl, _, rfl, p, _, _, .ref qa, rfl, rfl, .of (s58 _ _ hR4.at_), atI_nat ea, _, rfl, qa, _, _, _, rfl, rfl, .of (s58 _ _ ta), atI_nat eab, by show 3 ≤ sizeLine; decide, fun u nu => ?_⟩
          have s59 := s58.upd (o := .tup [V.int a, .int b, .int m]) nu
          refine ⟨f, _, _, rfl, rfl, s59 _ _ f4, small_line (by omega), ?_⟩
          have kt := KeepT.upd (o := .lst (xs ++ [V.ref u])) (s59 _ _ f4)
          refine ⟨_, _, _, _, rfl, (s4.trans s59).set nf, ?_, (dg4.same s59).keep kt (flat_e2s _), upd_same, ?_⟩
          · rw [upd_ne hgf]; exact s59 _ _ g4
          · rw [htk, List.filter_append, List.filter_cons, htt, List.filter_nil]
            simp only [if_true, List.map_append, List.map_cons, List.map_nil]
            refine ((dx4.same s59).keep kt (flat_As _)).append (.cons ?_ .nil)
            refine Dp.keep kt (.tup (.of upd_same) (.cons (.int _) (.cons (.int _) (.cons ?_ .nil)))) rfl
            simp only [withD, em]; exact .int _
  · rintro σ H4 ⟨xs, y3, y4, y5, rfl, s4, g4, dg4, f4, dx4⟩
    rw [hlg, List.take_length] at dx4
    refine ⟨_, rfl, pp, _, 0, _, rfl, rfl, (s1.trans s4).tup hp, atI_nat (j := 0) rfl, _, rfl, ?_⟩
    walk_at "n"
    refine sort_tuple (.of f4) dx4 fun H5 v5 s5 d5 => ⟨by show 2 ≤ sizeLine; decide, fun u nu => ?_⟩
    rw [sort_self _ List.filter_sublist] at d5
    exact q _ _ rows ((s1.trans (s4.trans s5)).upd nu) hT (.tup (.of upd_same) (.cons (.int _) (.cons (d5.same (same_upd nu)) .nil)))
end
end A69
end

section
set_option maxRecDepth 100000
set_option maxHeartbeats 2000000
/-! LRf: readings of the law: the same kind all through. -/
namespace A69
open PySem PySem.Spec PyProof.Rows L2 KX MP
local macro_rules | `(tactic| walk_at "n") => `(tactic| dsimp only [rtE, tRet, tAndV, tOrV, tNotV, tCB, tCons, tNil, tVar, tC, tOp, tUn, tChain, tTest, tB, tAnd, tOr, tNot, tIf, tIfS, tSeq, tAsg, tDrop, tNext, gName, tPar, tPar3, tTup, tLst, tCall, tBM, tBM0, tSl, tPart, tNoPart, gTup, gCons, gNil, gSub, iRng1, iRng2, iList, iTup, iEnumT, iRgV, tYes, tLstRg, tRg1])

/-- parts of data at hand -/
theorem ix_data {K : PySem.W.Frag} {H : Hp} {u : V} {ds : List PyData} (h : Dp K H u (.list ds) ∨ Dp K H u (.tuple ds)) {k : Nat} (hk : k < ds.length) {Q : VK} (q : ∀ y, Dp K H y ds[k] → Q y H) : rIx K u (.int (k : Int)) H Q := by
  rcases h with h | h
  · obtain ⟨p, xs, rfl, hs, ha⟩ := h.lst_inv
    obtain ⟨y, e, dy⟩ := ha.get (List.getElem?_eq_getElem hk)
    exact .inl ⟨p, xs, _, y, rfl, rfl, hs, atI_nat e, q y dy⟩
  · obtain ⟨p, xs, rfl, hs, ha⟩ := h.tup_inv
    obtain ⟨y, e, dy⟩ := ha.get (List.getElem?_eq_getElem hk)
    exact .inr (.inl ⟨p, xs, _, y, rfl, rfl, hs, atI_nat e, q y dy⟩)
theorem len_data {K : PySem.W.Frag} {H : Hp} {u : V} {ds : List PyData} (h : Dp K H u (.list ds) ∨ Dp K H u (.tuple ds)) : LenV K u H ds.length := by
  rcases h with h | h
  · obtain ⟨p, xs, rfl, hs, ha⟩ := h.lst_inv
    exact .inl ⟨xs, hs, ha.length.symm⟩
  · obtain ⟨p, xs, rfl, hs, ha⟩ := h.tup_inv
    exact .inr ⟨xs, hs, ha.length.symm⟩
theorem fm_none {α : Type} (l : List Nat) : l.filterMap (fun _ => (none : Option α)) = [] := by
  induction l with
  | nil => rfl
  | cons a l ih => rw [List.filterMap_cons]; exact ih
theorem cut_one (z : Str) {k : Nat} (hk : k < z.length) : cutS z (some (k : Int)) (some ((k + 1 : Nat) : Int)) = ⟨#[z.cps.toList[k]'(by rw [Array.length_toList]; exact hk)]⟩ := by
  have hl : z.cps.toList.length = z.length := Array.length_toList
  unfold cutS
  rw [HT.sIx_nat, HT.sIx_nat, Nat.min_eq_left (by omega), Nat.min_eq_left (by omega), show k + 1 - k = 1 by omega]
  congr 1
  have e : (z.cps.toList.drop k).take 1 = [z.cps.toList[k]'(by rw [hl]; exact hk)] := by
    rw [List.drop_eq_getElem_cons (by omega)]; rfl
  rw [e]
def t_same_tail {mg : Str → Option Value} {K : PySem.W.Frag} (T : TX K mg) (lv : Nat) : TS :=
  (tRet (tAndV (tOp rEq (tCB (rLen K) (tCons (tVar 0) tNil)) (tCB (rLen K) (tCons (tVar 1) tNil))) (tOp (rEqD K) (tLc (iRng1 (tCons (tCB (rLen K) (tCons (tVar 1) tNil)) tNil)) (gName 2) (tNot (tB (tCall (sp_same T lv) [] E0 (tCons (tOp (rIx K) (tVar 0) (tVar 2)) (tCons (tOp (rIx K) (tVar 1) (tVar 2)) tNil))))) (tVar 2) [2]) (tLst tNil))))
section
variable {K : PySem.W.Frag} {mg : Str → Option Value} (T : TX K mg) {vs : List V} {H : Hp} {Q : VK} {E : XK}

theorem same_tail {lv : Nat} {v w : V} {ds : List PyData} (hv : Dp K H v (.list ds) ∨ Dp K H v (.tuple ds)) (hw : Dp K H w (.list ds) ∨ Dp K H w (.tuple ds)) (hl : ds.length ≤ 100000) (hs : ∀ x ∈ ds, Small lv x)
    (q : ∀ H', Same H H' → Q (.bl true) H') : t_same_tail T lv (rtE Q) (start N_law_same [v, w]) H := by
  unfold t_same_tail; walk_at "n"
  have up : ∀ {u : V} {H2 : Hp}, Same H H2 → (Dp K H u (.list ds) ∨ Dp K H u (.tuple ds)) → Dp K H2 u (.list ds) ∨ Dp K H2 u (.tuple ds) := fun s h => h.elim (fun h => .inl (h.same s)) (fun h => .inr (h.same s))
  have en : ((ds.length : Int)).toNat = ds.length := by omega
  refine ⟨_, rfl, _, _, rfl, len_data hv, _, rfl, _, _, rfl, len_data hw, rfl, ?_⟩
  have e0 : decide (V.int (ds.length : Int) = V.int (ds.length : Int)) = true := decide_eq_true rfl
  rw [e0]
  refine ⟨_, rfl, iteT (lc_def ⟨_, rfl, _, _, rfl, len_data hw, _, rfl, by omega, by omega, ?_⟩)⟩
  rw [en]
  refine comp_rng (K := K) (fun _ => none) hl (fun _ _ _ e => nomatch e) ?_ ?_
  · intro k H2 hk s2 Qy Qn h1 h2
    walk_at "n"
    have ek : (0 : Int) + (k : Int) = ((k : Nat) : Int) := by omega
    rw [ek]
    refine ⟨rfl, _, rfl, _, rfl, ix_data (up s2 hv) hk fun y dy => ⟨_, rfl, _, rfl, ix_data (up s2 hw) hk fun z dz => ?_⟩⟩
    exact ⟨y, z, _, rfl, dy, dz, hs _ (List.getElem_mem hk), fun H3 s3 => ⟨_, rfl, iteF (h2 rfl _ s3)⟩⟩
  · intro D ys H2 sm hD hx hy
    rw [fm_none] at hy
    cases hy
    refine ⟨Nat.zero_le _, fun o no => ?_⟩
    refine eq_nilI (l := []) (.of (upd_at hx no)) (.of upd_same) ?_
    exact q _ (sm.upd no)
theorem rd_law_same {lv : Nat} (h : sp_same T (lv + 1) vs H Q E) : t_law_same T lv (rtE Q) (start N_law_same vs) H := by
  obtain ⟨v, w, d, rfl, hv, hw, hs, q⟩ := h
  have tail : ∀ ds, (d = .list ds ∨ d = .tuple ds) → t_same_tail T lv (rtE Q) (start N_law_same [v, w]) H := fun ds e => by
    refine same_tail T (ds := ds) ?_ ?_ ?_ ?_ q
    · rcases e with e | e <;> subst e
      · exact .inl hv
      · exact .inr hv
    · rcases e with e | e <;> subst e
      · exact .inl hw
      · exact .inr hw
    · rcases e with e | e <;> subst e
      · exact hs.1
      · exact hs.1
    · rcases e with e | e <;> subst e
      · exact hs.2
      · exact hs.2
  unfold t_law_same; walk_at "n"
  refine ⟨_, rfl, rfl, _, rfl, ?_⟩
  cases d with
  | none =>
    cases hv.non_inv
    cases hw.non_inv
    refine iteT (iteT ⟨_, rfl, rfl, _, rfl, iteT ⟨_, rfl, rfl, q H (Same.refl _)⟩⟩)
  | bool b =>
    cases hv.bl_inv
    cases hw.bl_inv
    refine iteF ⟨_, rfl, isi_bool hw ⟨_, rfl, iteT ⟨_, rfl, rfl, _, rfl, iteF ⟨_, rfl, isi_bool hv ⟨_, rfl, iteT ⟨_, rfl, _, _, rfl, rfl, _, rfl, _, _, rfl, rfl, rfl, ?_⟩⟩⟩⟩⟩⟩
    have e : decide (V.bl (decide (b = true)) = V.bl (decide (b = true))) = true := decide_eq_true rfl
    rw [e]
    exact q H (Same.refl _)
  | int i =>
    cases hv.int_inv
    cases hw.int_inv
    refine iteF ⟨_, rfl, isi_bool hw ⟨_, rfl, iteF ⟨_, rfl, isi_int hw ⟨_, rfl, iteT ⟨_, rfl, isi_int hv ⟨_, rfl, iteT ⟨_, rfl, isi_bool hv ⟨_, rfl, _, rfl, iteT ⟨_, rfl, .inl ⟨_, rfl, _, rfl, _, _, rfl, rfl, rfl, ?_⟩⟩⟩⟩⟩⟩⟩⟩⟩⟩
    have e : decide (V.int (i - i) = V.int 0) = true := decide_eq_true (by rw [Int.sub_self])
    rw [e]
    exact q H (Same.refl _)
  | str z =>
    cases hv.str_inv
    cases hw.str_inv
    have hz : z.length ≤ 1000 := hs
    have big : (1000 : Nat) ≤ sizeLine := by decide
    refine iteF ⟨_, rfl, isi_bool hw ⟨_, rfl, iteF ⟨_, rfl, isi_int hw ⟨_, rfl, iteF ⟨_, rfl, isi_str hw ⟨_, rfl, iteT ⟨_, rfl, isi_str hv ⟨_, rfl, iteT ?_⟩⟩⟩⟩⟩⟩⟩⟩
    have en : ((z.length : Int)).toNat = z.length := by omega
    refine ⟨_, rfl, _, z.length, rfl, ⟨by omega, rfl⟩, _, rfl, _, z.length, rfl, ⟨by omega, rfl⟩, rfl, ?_⟩
    have e0 : decide (V.int (z.length : Int) = V.int (z.length : Int)) = true := decide_eq_true rfl
    rw [e0]
    refine ⟨_, rfl, iteT (lc_def ⟨_, rfl, _, z.length, rfl, ⟨by omega, rfl⟩, _, rfl, by omega, by omega, ?_⟩)⟩
    rw [en]
    refine comp_rng (K := K) (fun _ => none) (by omega) (fun _ _ _ e => nomatch e) ?_ ?_
    · intro k H2 hk s2 Qy Qn h1 h2
      walk_at "n"
      have ek : (0 : Int) + (k : Int) = ((k : Nat) : Int) := by omega
      rw [ek]
      refine ⟨rfl, _, rfl, _, rfl, _, rfl, _, rfl, _, _, rfl, rfl, ((k + 1 : Nat) : Int), congrArg V.int (by omega), z, rfl, by omega, ?_⟩
      rw [cut_one z hk]
      have hk' : k < z.cps.toList.length := by rw [Array.length_toList]; exact hk
      refine ⟨_, rfl, _, rfl, .inr (.inr ⟨z, _, _, rfl, rfl, by omega, atI_nat (List.getElem?_eq_getElem hk'), ?_⟩)⟩
      refine ⟨rfl, _, rfl, ?_⟩
      have e : (!decide (V.str (⟨#[z.cps.toList[k]]⟩ : Str) = V.str ⟨#[z.cps.toList[k]]⟩)) = false := by simp
      rw [e]
      exact iteF (h2 rfl _ (Same.refl _))
    · intro D ys H2 sm hD hx hy
      rw [fm_none] at hy
      cases hy
      refine ⟨Nat.zero_le _, fun o no => ?_⟩
      refine eq_nilI (l := []) (.of (upd_at hx no)) (.of upd_same) ?_
      exact q _ (sm.upd no)
  | list ds =>
    obtain ⟨p, _, rfl, _, _⟩ := hw.lst_inv
    refine iteF ⟨_, rfl, isi_bool hw ⟨_, rfl, iteF ⟨_, rfl, isi_int hw ⟨_, rfl, iteF ⟨_, rfl, isi_str hw ⟨_, rfl, iteF ?_⟩⟩⟩⟩⟩⟩
    refine ⟨_, rfl, isi_list hv ⟨_, rfl, isi_list hw ⟨rfl, _, rfl, ?_⟩⟩⟩
    refine iteF ⟨_, rfl, isi_tuple hv ⟨_, rfl, isi_tuple hw ⟨rfl, _, rfl, ?_⟩⟩⟩
    exact iteF (tail ds (.inl rfl))
  | tuple ds =>
    obtain ⟨p, _, rfl, _, _⟩ := hw.tup_inv
    refine iteF ⟨_, rfl, isi_bool hw ⟨_, rfl, iteF ⟨_, rfl, isi_int hw ⟨_, rfl, iteF ⟨_, rfl, isi_str hw ⟨_, rfl, iteF ?_⟩⟩⟩⟩⟩⟩
    refine ⟨_, rfl, isi_list hv ⟨_, rfl, isi_list hw ⟨rfl, _, rfl, ?_⟩⟩⟩
    refine iteF ⟨_, rfl, isi_tuple hv ⟨_, rfl, isi_tuple hw ⟨rfl, _, rfl, ?_⟩⟩⟩
    exact iteF (tail ds (.inr rfl))
  | _ => cases hv
end
end A69
end

section
set_option maxRecDepth 100000
set_option maxHeartbeats 2000000
/-! LRg: readings of the law: steps of plans. -/
namespace A69
open PySem PySem.Spec PyProof.Rows L2 KX MP
local macro_rules | `(tactic| walk_at "n") => `(tactic| dsimp only [rtE, tRet, tAndV, tOrV, tNotV, tCB, tCons, tNil, tVar, tC, tOp, tUn, tChain, tTest, tB, tAnd, tOr, tNot, tIf, tIfS, tSeq, tAsg, tDrop, tNext, gName, tPar, tPar3, tTup, tLst, tCall, tBM, tBM0, tSl, tPart, tNoPart, gTup, gCons, gNil, gSub, iRng1, iRng2, iList, iTup, iEnumT, iRgV, tYes, tLstRg, tRg1])

theorem leA_total (a b : Acty) : (leA a b || leA b a) = true := by
  rw [Bool.or_eq_true]
  rcases List.le_total (toL a) (toL b) with h | h
  · exact .inl (decide_eq_true h)
  · exact .inr (decide_eq_true h)
theorem leA_trans (a b c : Acty) (h : leA a b = true) (g : leA b c = true) : leA a c = true :=
  decide_eq_true (List.le_trans (of_decide_eq_true h) (of_decide_eq_true g))
theorem inOrder_of : ∀ {l : List Acty}, l.Pairwise (fun a b => leA a b = true) → inOrder l = true
  | [], _ => rfl
  | [_], _ => rfl
  | a :: b :: r, h => by
    rw [List.pairwise_cons] at h
    show (leA a b && inOrder (b :: r)) = true
    rw [h.1 b List.mem_cons_self, inOrder_of h.2]; rfl
theorem inOrder_sort (l : List Acty) : inOrder (l.mergeSort leA) = true := inOrder_of (List.pairwise_mergeSort leA_trans leA_total l)
theorem valid_sort {n : Nat} {acts : List Acty} (h1 : 1 ≤ n) (hg : GoodA n acts) (hr : ∃ r, Ranked acts r) : Valid n (acts.mergeSort leA) := by
  refine ⟨h1, ⟨hg.n20, by rw [List.length_mergeSort]; exact hg.most, fun a b d hm => hg.ev a b d (List.mem_mergeSort.mp hm)⟩, inOrder_sort acts, ?_⟩
  obtain ⟨r, hr⟩ := hr
  exact ⟨r, fun a b d hm => hr a b d (List.mem_mergeSort.mp hm)⟩
theorem leads_good {n : Nat} {order : List Nat} {acts : List Acty} (h20 : n ≤ 20) (hp : order.Perm (List.range n)) (h120 : acts.length ≤ 120) (hl : ∀ x ∈ acts, Leads order x) : GoodA n acts ∧ ∃ r, Ranked acts r := by
  have nd : order.Nodup := hp.nodup_iff.mpr List.nodup_range
  have lt : ∀ x ∈ order, x < n := fun x hx => List.mem_range.mp (hp.mem_iff.mp hx)
  refine ⟨⟨h20, h120, fun a b d hm => ?_⟩, ⟨fun e => order.idxOf e, fun a b d hm => ?_⟩⟩
  · obtain ⟨i, j, hij, e1, e2, hd⟩ := hl _ hm
    refine ⟨lt _ (List.mem_of_getElem? e1), lt _ (List.mem_of_getElem? e2), fun z => ?_, hd⟩
    obtain ⟨h1, e1⟩ := List.getElem?_eq_some_iff.mp e1
    obtain ⟨h2, e2⟩ := List.getElem?_eq_some_iff.mp e2
    have := (List.getElem_inj nd).mp (e1.trans (z.trans e2.symm))
    omega
  · obtain ⟨i, j, hij, e1, e2, hd⟩ := hl _ hm
    obtain ⟨h1, e1⟩ := List.getElem?_eq_some_iff.mp e1
    obtain ⟨h2, e2⟩ := List.getElem?_eq_some_iff.mp e2
    dsimp only at e1 e2
    show order.idxOf a < order.idxOf b
    rw [← e1, ← e2, nd.idxOf_getElem i h1, nd.idxOf_getElem j h2]
    exact hij
theorem sh_eA (a : Acty) : Sh 1 (eA a) := sh_tuple sh_int [(a.1 : Int), (a.2.1 : Int), a.2.2]
theorem ne_nilA {K : PySem.W.Frag} {H : Hp} {q o : Addr} {xs : List V} {l : List Acty} {Q : VK} (hq : SqL K H q xs) (hd : DpAll K H xs (l.map eA)) (ho : SqL K H o []) (h : Q (.bl (!l.isEmpty)) H) : rNeD K (.ref q) (.ref o) H Q := by
  refine ⟨_, _, .lst hq hd, .lst ho .nil, (sh_list sh_eA l).shaped (by decide), rfl, ?_⟩
  have e : PyData.eqv (.list (l.map eA)) (.list []) = l.isEmpty := by cases l <;> rfl
  rw [e]; exact h
section
variable {K : PySem.W.Frag} {mg : Str → Option Value} (T : TX K mg) {vs : List V} {H : Hp} {Q : VK} {E : XK}

def StepsInv (K : PySem.W.Frag) (H : Hp) (b o f : Addr) (order : List Nat) (count k : Nat) (g : Bool) (i : Nat) (σ : L2.St) (H' : Hp) : Prop :=
  ∃ (xs : List V) (acts : List Acty) (y5 y6 y7 y8 : Option V), σ = [some (.ref b), some (.ref o), some (.int (count : Nat)), some (.bl g), some (.ref f), y5, y6, y7, y8] ∧ But b H H' ∧ Box H' b (k + 20 * i) ∧ H' f = some (.lst xs) ∧ DpAll K H' xs (acts.map eA) ∧ acts.length = i ∧ ∀ x ∈ acts, Leads order x
def t_steps_tail {mg : Str → Option Value} {K : PySem.W.Frag} (T : TX K mg) : TS :=
  (tDrop (tBM K "list" rAppend (tVar 4) (tCons (tIf (tB (tVar 8)) (tOp (rIxL K) (tVar 4) (tCall (sp_law_take T) [] E0 (tCons (tVar 0) (tCons (tCB (rLenSeq K) (tCons (tVar 4) tNil)) tNil)))) (tTup (tCons (tOp (rIxL K) (tVar 1) (tVar 6)) (tCons (tOp (rIxL K) (tVar 1) (tVar 7)) (tCons (tCall (sp_law_duration T) [] E0 (tCons (tVar 0) (tCons (tVar 3) tNil))) tNil))))) tNil)))
theorem steps_tail {D : Ends} {b o f : Addr} {order : List Nat} {acts : List Acty} {xs : List V} {y2 y5 : Option V} {g ag : Bool} {r1 r2 k5 : Nat} {H5 : Hp} (s5 : But b H H5) (nf : H f = none) (hf : H5 f = some (.lst xs)) (hd : DpAll K H5 xs (acts.map eA)) (ho : H5 o = some (.lst (nats order)))
    (hob : o ≠ b) (hfb : f ≠ b) (hr : r1 + 1 + r2 < order.length) (hag : ag = true → acts ≠ []) (hb : Box H5 b k5) (hk5 : k5 + 8 ≤ lim) (hl : acts.length < 1000) (hle : ∀ x ∈ acts, Leads order x)
    (nx : ∀ H6 xs' (acts' : List Acty), But b H H6 → Box H6 b (k5 + 8) → H6 f = some (.lst xs') → DpAll K H6 xs' (acts'.map eA) → acts'.length = acts.length + 1 → (∀ x ∈ acts', Leads order x) → D.nx [some (.ref b), some (.ref o), y2, some (.bl g), some (.ref f), y5, some (.int (r1 : Int)), some (.int ((r1 : Int) + 1 + (r2 : Int))), some (.bl ag)] H6) :
    t_steps_tail T D [some (.ref b), some (.ref o), y2, some (.bl g), some (.ref f), y5, some (.int (r1 : Int)), some (.int ((r1 : Int) + 1 + (r2 : Int))), some (.bl ag)] H5 := by
  unfold t_steps_tail; walk_at "n"
  have hlx : xs.length = acts.length := by rw [hd.length, List.length_map]
  refine ⟨_, rfl, .inl ⟨rfl, _, .inl (.inl hf)⟩, _, rfl, ag, rfl, ?_⟩
  cases ag with
  | true =>
    have hne := hag rfl
    have hpos : 1 ≤ acts.length := by cases acts with | nil => exact absurd rfl hne | cons a l => simp
    refine iteT ⟨_, rfl, _, rfl, _, rfl, f, _, rfl, .inl (.of hf), ?_⟩
    refine ⟨b, acts.length, k5, by rw [hlx]; rfl, hb, by omega, hpos, by omega, fun H6 r s6 b6 h6 => ?_⟩
    have f6 := s6 _ _ hfb hf
    have d6 : DpAll K H6 xs (acts.map eA) := hd.keep (hb.keep s6) (flat_As _)
    obtain ⟨y, ey, dy⟩ := d6.get (i := r) (d := eA acts[r]) (by rw [List.getElem?_map, List.getElem?_eq_getElem h6]; rfl)
    refine ⟨f, _, _, _, rfl, rfl, .of f6, atI_nat ey, f, _, _, rfl, rfl, f6, small_line (by omega), ?_⟩
    have kt := KeepT.upd (o := .lst (xs ++ [y])) f6
    refine nx _ _ (acts ++ [acts[r]]) ((s5.trans s6).upd_free nf) ?_ upd_same ?_ (by simp) ?_
    · obtain ⟨x1, gg, mm, c, e1, e2⟩ := b6
      exact ⟨x1, gg, mm, c, by rw [upd_ne (Ne.symm hfb)]; exact e1, e2.1, e2.2.1, by have := e2.2.2; omega⟩
    · rw [List.map_append]
      exact (d6.keep kt (flat_As _)).append (.cons (dy.keep kt rfl) .nil)
    · intro x hx
      rcases List.mem_append.mp hx with z | z
      · exact hle x z
      · rw [List.mem_singleton] at z; rw [z]; exact hle _ (List.getElem_mem _)
  | false =>
    have hj : r1 < order.length := by omega
    refine iteF ⟨_, rfl, _, rfl, o, _, _, _, rfl, rfl, .of ho, atI_nat (nats_get (List.getElem?_eq_getElem hj)), _, rfl, _, rfl, o, _, ((r1 + 1 + r2 : Nat) : Int), _, rfl, congrArg V.int (by omega), .of ho, atI_nat (nats_get (List.getElem?_eq_getElem hr)), _, rfl, _, rfl, ?_⟩
    refine ⟨b, g, k5, rfl, hb, by omega, fun H6 d s6 b6 hd0 => ⟨by show 3 ≤ sizeLine; decide, fun u nu => ?_⟩⟩
    have s7 : Same H6 (upd H6 u (.tup [V.int order[r1], V.int order[r1 + 1 + r2], V.int d])) := same_upd nu
    have f6 := upd_at (a := u) (o := .tup [V.int order[r1], V.int order[r1 + 1 + r2], V.int d]) (s6 _ _ hfb hf) nu
    have d6 : DpAll K _ xs (acts.map eA) := (hd.keep (hb.keep s6) (flat_As _)).same s7
    refine ⟨f, _, _, rfl, rfl, f6, small_line (by omega), ?_⟩
    have kt := KeepT.upd (o := .lst (xs ++ [V.ref u])) f6
    refine nx _ _ (acts ++ [(order[r1], order[r1 + 1 + r2], d)]) (((s5.trans s6).tr s7).upd_free nf) ?_ upd_same ?_ (by simp) ?_
    · obtain ⟨x1, gg, mm, c, e1, e2⟩ := b6
      exact ⟨x1, gg, mm, c, by rw [upd_ne (Ne.symm hfb)]; exact s7 _ _ e1, e2.1, e2.2.1, by have := e2.2.2; omega⟩
    · rw [List.map_append]
      exact (d6.keep kt (flat_As _)).append (.cons (Dp.keep kt (.tup (.of upd_same) (.cons (.int _) (.cons (.int _) (.cons (.int _) .nil)))) rfl) .nil)
    · intro x hx
      rcases List.mem_append.mp hx with z | z
      · exact hle x z
      · rw [List.mem_singleton] at z
        rw [z]
        exact ⟨r1, r1 + 1 + r2, by omega, List.getElem?_eq_getElem hj, List.getElem?_eq_getElem hr, hd0⟩
theorem rd_law_steps (h : sp_law_steps T vs H Q E) : t_law_steps T (rtE Q) (start N_law_steps vs) H := by
  unfold t_law_steps; walk_at "n"
  obtain ⟨b, o, order, count, k, g, rfl, ho, hob, h2, h20, hc, hb, hk, q⟩ := h
  have hlim : lim = 1000000 := rfl
  refine ⟨Nat.zero_le _, fun f nf => ⟨_, rfl, _, rfl, by omega, by omega, ?_⟩⟩
  have en : ((count : Int)).toNat = count := by omega
  rw [en]
  have s0 : Same H (upd H f (.lst [])) := same_upd nf
  have hfb := hb.ne nf
  have hof : o ≠ f := fun z => by rw [z, nf] at ho; cases ho
  refine for_it walk_range (StepsInv K H b o f order count k g)
    ⟨[], [], _, _, _, _, rfl, .of s0, hb.same s0, upd_same, .nil, rfl, fun x hx => nomatch hx⟩ (fun _ _ _ _ _ => trivial) ?_ ?_
  · rintro i x σ H1 H2 hi ⟨xs, acts, y5, y6, y7, y8, rfl, s1, b1, f1, d1, hl, hle⟩ ⟨rfl, rfl⟩
    walk_at "n"
    have o1 := s1 _ _ hob ho
    have flen : ((nats order).length : Int) = (order.length : Int) := by rw [nats_len]
    refine ⟨_, rfl, _, rfl, o, _, rfl, .inl (.of o1), _, _, rfl, rfl, ?_⟩
    refine ⟨b, order.length - 1, k + 20 * i, ?_, b1, by omega, by omega, by omega, fun H3 r1 s3 b3 h3 => ?_⟩
    · show [V.ref b, V.int (((nats order).length : Int) - 1)] = [V.ref b, V.int ((order.length - 1 : Nat) : Int)]
      rw [flen, show ((order.length - 1 : Nat) : Int) = (order.length : Int) - 1 by omega]
    have o3 := s3 _ _ hob o1
    have f3 := s3 _ _ hfb f1
    refine ⟨_, rfl, _, _, rfl, rfl, _, rfl, _, rfl, o, _, rfl, .inl (.of o3), _, _, rfl, rfl, _, rfl, _, _, rfl, rfl, ?_⟩
    refine ⟨b, order.length - 1 - r1, _, ?_, b3, by omega, by omega, by omega, fun H4 r2 s4 b4 h4 => ⟨_, _, rfl, rfl, ?_⟩⟩
    · show [V.ref b, V.int (((nats order).length : Int) - 1 - (r1 : Int))] = [V.ref b, V.int ((order.length - 1 - r1 : Nat) : Int)]
      rw [flen, show ((order.length - 1 - r1 : Nat) : Int) = (order.length : Int) - 1 - (r1 : Int) by omega]
    have o4 := s4 _ _ hob o3
    have f4 := s4 _ _ hfb f3
    have d4 : DpAll K H4 xs (acts.map eA) := (d1.keep (b1.keep s3) (flat_As _)).keep (b3.keep s4) (flat_As _)
    have s14 := s3.trans s4
    refine ⟨_, rfl, Nat.zero_le _, fun t nt => ?_⟩
    have d5 := d4.same (same_upd (o := .lst []) nt)
    have f5 := upd_at (a := t) (o := .lst []) f4 nt
    refine ne_nilA (.of f5) d5 (.of upd_same) ?_
    refine ⟨_, rfl, ?_⟩
    have hrr : r1 + 1 + r2 < order.length := by omega
    have s15 : But b H (upd H4 t (.lst [])) := ((s1.trans s14).tr (same_upd nt))
    have nxt : ∀ (k5 : Nat) (ag : Bool), k5 ≤ k + 20 * i + 3 → ∀ H6 xs' (acts' : List Acty), But b H H6 → Box H6 b (k5 + 8) → H6 f = some (.lst xs') → DpAll K H6 xs' (acts'.map eA) → acts'.length = acts.length + 1 → (∀ x ∈ acts', Leads order x) →
        StepsInv K H b o f order count k g (i + 1) [some (V.ref b), some (.ref o), some (.int (count : Nat)), some (.bl g), some (.ref f), some (.int (0 + (i : Int))), some (.int (r1 : Int)), some (.int ((r1 : Int) + 1 + (r2 : Int))), some (.bl ag)] H6 :=
      fun k5 ag hk5 H6 xs' acts' a1 a2 a3 a4 a5 a6 => ⟨xs', acts', _, _, _, _, rfl, a1, a2.mono (by omega), a3, a4, by omega, a6⟩
    cases acts with
    | nil =>
      refine iteF ?_
      exact steps_tail T (D := ⟨StepsInv K H b o f order count k g (i + 1), fun _ _ => True, fun _ _ => True, fun _ _ => True⟩) (ag := false) s15 nf f5 d5 (upd_at o4 nt) hob hfb hrr (fun z => nomatch z) (k5 := k + 20 * i + 1 + 1) (b4.same (same_upd nt)) (by omega) (by simp) hle (nxt (k + 20 * i + 1 + 1) _ (by omega))
    | cons a0 l0 =>
      refine iteT ?_
      refine ⟨_, rfl, b, 8, _, rfl, b4.same (same_upd nt), by omega, by omega, by omega, fun H6 r3 s6 b6 h6 => ⟨rfl, ?_⟩⟩
      exact steps_tail T (D := ⟨StepsInv K H b o f order count k g (i + 1), fun _ _ => True, fun _ _ => True, fun _ _ => True⟩) (ag := decide (V.int (r3 : Int) = V.int 0)) (s15.trans s6) nf (s6 _ _ hfb f5) (d5.keep ((b4.same (same_upd nt)).keep s6) (flat_As _)) (s6 _ _ hob (upd_at o4 nt)) hob hfb hrr (fun _ z => nomatch z) (k5 := k + 20 * i + 1 + 1 + 1) b6 (by omega) (by omega) hle (nxt (k + 20 * i + 1 + 1 + 1) _ (by omega))
  · rintro σ H1 ⟨xs, acts, y5, y6, y7, y8, rfl, s1, b1, f1, d1, hl, hle⟩
    exact ⟨_, rfl, q H1 f xs acts s1 nf f1 d1 hl hle b1⟩
end
end A69
end

section
set_option maxRecDepth 100000
set_option maxHeartbeats 2000000
/-! LRh: comprehensions that take of the box. -/
namespace A69
open PySem PySem.Spec PyProof.Rows L2 KX MP
local macro_rules | `(tactic| walk_at "n") => `(tactic| dsimp only [rtE, tRet, tAndV, tOrV, tNotV, tCB, tCons, tNil, tVar, tC, tOp, tUn, tChain, tTest, tB, tAnd, tOr, tNot, tIf, tIfS, tSeq, tAsg, tDrop, tNext, gName, tPar, tPar3, tTup, tLst, tCall, tBM, tBM0, tSl, tPart, tNoPart, gTup, gCons, gNil, gSub, iRng1, iRng2, iList, iTup, iEnumT, iRgV, tYes, tLstRg, tRg1])

theorem Box.upd_ne {H : Hp} {b p : Addr} {k : Nat} {o : HO} (h : Box H b k) (e : p ≠ b) : Box (upd H p o) b k := by
  obtain ⟨x, g, m, c, h1, h2⟩ := h
  exact ⟨x, g, m, c, by rw [L2.upd_ne (Ne.symm e)]; exact h1, h2⟩
theorem comp_box {J : It} {n : Nat} {G : Hp → Prop} {Y : Nat → Hp → V → Hp → Prop} (w : Walk J n G Y) {K : PySem.W.Frag} {g : TG} {tt : TT} {te : TE} {vs : List Nat} {σ : L2.St} {H1 : Hp} {Q : VK} {b : Addr} {k t : Nat} (R : Nat → List PyData → Prop)
    (hb : Box H1 b k) (hn : n ≤ 1000) (h0 : R 0 []) (hY : ∀ i H x H', i < n → Y i H x H' → Same H H') (hG : ∀ H', But b H1 H' → G H')
    (hs : ∀ i x H H' ds, i < n → But b H1 H → Y i H x H' → Box H' b (k + i * t) → R i ds → ∀ (Qy : VK) (Qn : Hp → Prop),
      (∀ d y H4, But b H' H4 → Box H4 b (k + (i + 1) * t) → Dp K H4 y d → flatD d = true → R (i + 1) (ds ++ [d]) → Qy y H4) → (∀ H4, But b H' H4 → Box H4 b (k + (i + 1) * t) → R (i + 1) ds → Qn H4) →
      g x (wipe σ vs) H' fun σ2 H2 => wipe σ2 vs = wipe σ vs ∧ tt σ2 H2 fun c H3 => if c = true then te σ2 H3 Qy else Qn H3)
    (hq : ∀ (p : Addr) xs ds H', But b H1 H' → H1 p = none → H' p = some (.lst xs) → DpAll K H' xs ds → R n ds → ds.length ≤ n → Box H' b (k + n * t) → Q (.ref p) H') : LcOver J g tt te vs σ H1 Q := by
  intro D hD
  have hDb := hb.ne hD
  refine lc_it w (fun i H => But b H1 H ∧ Box H b (k + i * t) ∧ ∃ xs ds, H D = some (.lst xs) ∧ DpAll K H xs ds ∧ flatAll ds = true ∧ ds.length ≤ i ∧ R i ds)
    ⟨.of (same_upd hD), (hb.mono (by omega)).same (same_upd hD), [], [], upd_same, .nil, rfl, Nat.le_refl _, h0⟩ (fun i H _ p => hG H p.1) ?_ (fun H p => ?_)
  · rintro i x H H' hi ⟨bt, bx, xs, ds, hx, hd, fl, hl, hR⟩ y
    have sy := hY i H x H' hi y
    have hx' := sy _ _ hx
    have hd' := hd.same sy
    have bound : xs.length < sizeLine := small_line (by rw [hd.length]; omega)
    refine hs i x H H' ds hi bt y (bx.same sy) hR _ _ (fun d y4 H4 b4 bx4 dy fd hR4 => ?_) (fun H4 b4 bx4 hR4 => ?_)
    · have hx4 : H4 D = some (.lst xs) := b4 _ _ hDb hx'
      have kt4 : KeepT H' H4 := (bx.same sy).keep b4
      have kt : KeepT H4 (upd H4 D (.lst (xs ++ [y4]))) := KeepT.upd hx4
      refine ⟨xs, hx4, bound, ((bt.tr sy).trans b4).upd_free hD, bx4.upd_ne hDb, xs ++ [y4], ds ++ [d], upd_same, ?_, ?_, ?_, hR4⟩
      · exact ((hd'.keep kt4 fl).keep kt fl).append (.cons (dy.keep kt fd) .nil)
      · rw [flat_append, fl]; simp [flatAll, fd]
      · rw [List.length_append, List.length_singleton]; omega
    · exact ⟨(bt.tr sy).trans b4, bx4, xs, ds, b4 _ _ hDb hx', hd'.keep ((bx.same sy).keep b4) fl, fl, by omega, hR4⟩
  · obtain ⟨bt, bx, xs, ds, hx, hd, fl, hl, hR⟩ := p
    exact hq D xs ds H bt hD hx hd hR hl bx
theorem rg_nats (n : Nat) : rgV 0 (n : Int) = nats (List.range n) := by
  simp [rgV, nats]
end A69
end

section
set_option maxRecDepth 100000
set_option maxHeartbeats 2000000
/-! LRi: readings of the law: lines, even plans. -/
namespace A69
open PySem PySem.Spec PyProof.Rows L2 KX MP
local macro_rules | `(tactic| walk_at "n") => `(tactic| dsimp only [rtE, tRet, tAndV, tOrV, tNotV, tCB, tCons, tNil, tVar, tC, tOp, tUn, tChain, tTest, tB, tAnd, tOr, tNot, tIf, tIfS, tSeq, tAsg, tDrop, tNext, gName, tPar, tPar3, tTup, tLst, tCall, tBM, tBM0, tSl, tPart, tNoPart, gTup, gCons, gNil, gSub, iRng1, iRng2, iList, iTup, iEnumT, iRgV, tYes, tLstRg, tRg1])

/-- some activities along an order are made -/
def LdR (order : List Nat) (i : Nat) (ds : List PyData) : Prop := ∃ acts : List Acty, ds = acts.map eA ∧ acts.length = i ∧ ∀ x ∈ acts, Leads order x
theorem LdR.add {order : List Nat} {i : Nat} {ds : List PyData} {x : Acty} (h : LdR order i ds) (hx : Leads order x) : LdR order (i + 1) (ds ++ [eA x]) := by
  obtain ⟨acts, rfl, hl, h⟩ := h
  refine ⟨acts ++ [x], by simp, by simp [hl], fun y hy => ?_⟩
  rcases List.mem_append.mp hy with z | z
  · exact h y z
  · rw [List.mem_singleton] at z; rw [z]; exact hx
section
variable {K : PySem.W.Frag} {mg : Str → Option Value} (T : TX K mg) {vs : List V} {H : Hp} {Q : VK} {E : XK}

theorem rd_law_line (h : sp_law_line T vs H Q E) : t_law_line T (rtE Q) (start N_law_line vs) H := by
  unfold t_law_line; walk_at "n"
  obtain ⟨b, k, rfl, hb, hk, q⟩ := h
  have hlim : lim = 1000000 := rfl
  refine ⟨_, rfl, _, rfl, b, 3, k, rfl, hb, by omega, by omega, by omega, fun H1 r1 s1 b1 h1 => ?_⟩
  refine ⟨_, _, rfl, rfl, ((18 + r1 : Nat) : Int), congrArg V.int (by omega), .of_le (by omega) (by omega) (by omega) (by omega), fun l nl => ?_⟩
  rw [rg_nats]
  generalize hn : 18 + r1 = n
  refine ⟨b, l, List.range n, k + 1, rfl, .of upd_same, by rw [List.length_range]; omega, b1.same (same_upd nl), by rw [List.length_range]; omega, fun H2 o order s2 no eo hp b2 => ?_⟩
  rw [List.length_range] at b2
  have hol : order.length = n := by rw [hp.length_eq, List.length_range]
  refine ⟨_, rfl, b, 3, _, rfl, b2, by omega, by omega, by omega, fun H3 r3 s3 b3 h3 => ⟨_, _, rfl, by show 2 ≤ sizeLine; decide, fun t nt => ?_⟩⟩
  generalize hm : (if (r3 : Int) < 1 then (r3 : Int) else 1) = m
  have hm2 : m = 0 ∨ m = 1 := by
    rw [← hm]; split <;> omega
  have nO : o ≠ b := b1.same (same_upd nl) |>.ne no
  have o3 := s3 _ _ nO eo
  refine ⟨t, _, rfl, .of upd_same, rfl, _, _, rfl, _, _, rfl, rfl, ?_⟩
  generalize hH4 : upd H3 t (.tup [.ref o, .int m]) = H4
  have s34 : Same H3 H4 := by rw [← hH4]; exact same_upd nt
  have o4 := s34 _ _ o3
  have b4 := b3.same s34
  have bt4 : But b H H4 := (((s1.tr (same_upd nl)).trans s2).trans s3).tr s34
  refine lc_def ⟨_, rfl, by omega, by omega, ?_⟩
  have en : ((15 : Int)).toNat = 15 := rfl
  rw [en]
  refine comp_box walk_range (K := K) (b := b) (k := k + 1 + n + 1) (t := 1) (n := 15) (LdR order) b4 (by omega) ⟨[], rfl, rfl, fun x hx => nomatch hx⟩ (fun i H x H' _ y => yfn_same y) (fun _ _ => trivial) ?_ ?_
  · rintro i x H5 H6 ds hi bt ⟨rfl, rfl⟩ bx hR Qy Qn h1 h2
    walk_at "n"
    have ei : (0 : Int) + (i : Int) = ((i : Nat) : Int) := by omega
    rw [ei]
    have o5 := bt _ _ nO o4
    have hi1 : i < order.length := by omega
    have hi2 : i + 1 < order.length := by omega
    refine ⟨rfl, iteT ⟨_, rfl, _, rfl, o, _, _, _, rfl, rfl, .of o5, atI_nat (nats_get (List.getElem?_eq_getElem hi1)), _, rfl, _, rfl, _, _, rfl, rfl, o, _, ((i + 1 : Nat) : Int), _, rfl, congrArg V.int (by omega), .of o5, atI_nat (nats_get (List.getElem?_eq_getElem hi2)), _, rfl, ?_⟩⟩
    refine ⟨b, 5, _, rfl, bx, by omega, by omega, by omega, fun H7 r s7 b7 h7 => ⟨by show 3 ≤ sizeLine; decide, fun u nu => ?_⟩⟩
    refine h1 (eA (order[i], order[i + 1], (r : Int))) _ _ (s7.upd_new nu) ((b7.same (same_upd nu)).mono (by omega)) (.tup (.of upd_same) (.cons (.int _) (.cons (.int _) (.cons (.int _) .nil)))) rfl ?_
    exact hR.add ⟨i, i + 1, by omega, List.getElem?_eq_getElem hi1, List.getElem?_eq_getElem hi2, by show (0 : Int) ≤ (r : Int); omega⟩
  · rintro D xs ds H5 bt hD hx hy ⟨acts, rfl, hl, hle⟩ _ b5
    have o5 := bt _ _ nO o4
    have h16 : 16 < order.length := by omega
    have h17 : 17 < order.length := by omega
    refine ⟨_, rfl, o, _, (16 : Nat), _, rfl, rfl, .of o5, atI_nat (nats_get (List.getElem?_eq_getElem h16)), _, rfl, o, _, (17 : Nat), _, rfl, rfl, .of o5, atI_nat (nats_get (List.getElem?_eq_getElem h17)), by show 3 ≤ sizeLine; decide, fun u nu => ?_⟩
    refine ⟨by show 1 ≤ sizeLine; decide, fun g ng => ⟨_, rfl, g, m, _, rfl, rfl, upd_same, by omega, by omega, ?_, fun g2 ng2 => ?_⟩⟩
    · have : (20 : Nat) ≤ sizeLine := by decide
      show 1 * m.toNat ≤ sizeLine
      omega
    generalize hH6 : upd (upd (upd H5 u (.tup [.int (order[16] : Nat), .int (order[17] : Nat), .int 3])) g (.lst [.ref u])) g2 (.lst (List.replicate m.toNat [V.ref u]).flatten) = H6
    have su := same_upd (o := .tup [.int (order[16] : Nat), .int (order[17] : Nat), .int 3]) nu
    have sg := same_upd (o := .lst [.ref u]) ng
    have sg2 := same_upd (o := .lst (List.replicate m.toNat [V.ref u]).flatten) ng2
    have s56 : Same H5 H6 := by rw [← hH6]; exact (su.trans sg).trans sg2
    have e6 : H6 g2 = some (.lst (List.replicate m.toNat [V.ref u]).flatten) := by rw [← hH6]; exact upd_same
    have u6 : Dp K H6 (.ref u) (eA (order[16], order[17], 3)) := by
      rw [← hH6]
      exact Dp.same (sg.trans sg2) (.tup (.of upd_same) (.cons (.int _) (.cons (.int _) (.cons (.int _) .nil))))
    have dx6 := hy.same s56
    have hlx : xs.length = 15 := by rw [hy.length, List.length_map, hl]
    have fin : ∀ ys (acts2 : List Acty), H6 g2 = some (.lst ys) → DpAll K H6 ys (acts2.map eA) → acts2.length ≤ 1 → (∀ x ∈ acts2, Leads order x) → rCat (.ref D) (.ref g2) H6 fun x H1 =>
        ∃ v, ([some (V.ref b), none, some (.ref o), some (.int m), none].set 1 (some x))[2]? = some (some v) ∧ rLenSeq K [v] H1 fun y H1 => ∃ v, ([some (V.ref b), none, some (.ref o), some (.int m), none].set 1 (some x))[1]? = some (some v) ∧
          rSortedD K [v] H1 fun z H1 => rTupleOf K [z] H1 fun z H1 => [y, z].length ≤ sizeLine ∧ ∀ p, H1 p = none → Q (.ref p) (upd H1 p (.tup [y, z])) := by
      intro ys acts2 ey dy hl2 hle2
      have hly : ys.length ≤ 1 := by rw [dy.length, List.length_map]; exact hl2
      refine ⟨D, g2, _, _, rfl, rfl, s56 _ _ hx, ey, Nat.le_of_lt (small_line (by omega)), fun p np => ?_⟩
      have s67 := same_upd (o := .lst (xs ++ ys)) np
      have o7 := s67 _ _ (s56 _ _ o5)
      refine ⟨_, rfl, o, _, rfl, .inl (.of o7), _, rfl, ?_⟩
      have d7 : DpAll K (upd H6 p (.lst (xs ++ ys))) (xs ++ ys) ((acts ++ acts2).map eA) := by
        rw [List.map_append]; exact (dx6.append dy).same s67
      refine sort_tuple (.of upd_same) d7 fun H8 v8 s8 d8 => ⟨by show 2 ≤ sizeLine; decide, fun w nw => ?_⟩
      have hle3 : ∀ x ∈ acts ++ acts2, Leads order x := fun x hx => (List.mem_append.mp hx).elim (hle x) (hle2 x)
      obtain ⟨hg, hrk⟩ := leads_good (by omega) hp (by rw [List.length_append]; omega) hle3
      refine q _ _ n _ ?_ ?_ (valid_sort (by omega) hg hrk) ?_
      · exact ((bt4.trans bt).tr ((s56.trans s67).trans s8)).upd_new nw
      · have e9 : ((nats order).length : Int) = (n : Int) := by rw [nats_len, hol]
        rw [e9]
        exact .tup (.of upd_same) (.cons (.int _) (.cons (d8.same (same_upd nw)) .nil))
      · exact ((b5.same ((s56.trans s67).trans s8)).same (same_upd nw)).mono (by omega)
    rcases hm2 with rfl | rfl
    · exact fin [] [] e6 .nil (by simp) (fun x hx => nomatch hx)
    · refine fin [.ref u] [(order[16], order[17], 3)] e6 (.cons u6 .nil) (by simp) (fun x hx => ?_)
      rw [List.mem_singleton] at hx
      rw [hx]
      exact ⟨16, 17, by omega, List.getElem?_eq_getElem h16, List.getElem?_eq_getElem h17, by show (0 : Int) ≤ 3; decide⟩
end
end A69
end

section
set_option maxRecDepth 100000
set_option maxHeartbeats 2000000
/-! LRj: readings of the law: even plans, plans. -/
namespace A69
open PySem PySem.Spec PyProof.Rows L2 KX MP
local macro_rules | `(tactic| walk_at "n") => `(tactic| dsimp only [rtE, tRet, tAndV, tOrV, tNotV, tCB, tCons, tNil, tVar, tC, tOp, tUn, tChain, tTest, tB, tAnd, tOr, tNot, tIf, tIfS, tSeq, tAsg, tDrop, tNext, gName, tPar, tPar3, tTup, tLst, tCall, tBM, tBM0, tSl, tPart, tNoPart, gTup, gCons, gNil, gSub, iRng1, iRng2, iList, iTup, iEnumT, iRgV, tYes, tLstRg, tRg1])

theorem HRows.but {H H' : Hp} {b p : Addr} {ps : List Addr} {rows : List (List (Option Int))} (h : HRows H p ps rows) (s : But b H H') (hp : p ≠ b) (hq : ∀ q ∈ ps, q ≠ b) : HRows H' p ps rows :=
  ⟨s _ _ hp h.at_, h.len, fun i q e r er => s _ _ (hq q (List.mem_of_getElem? e)) (h.row i q e r er)⟩
/-- what stands on the heap while a plan is made even -/
structure EHp (K : PySem.W.Frag) (H H' : Hp) (b f p : Addr) (ps : List Addr) (rows : List (List (Option Int))) (n k : Nat) (r : Nat → Nat) (xs : List V) (acts : List Acty) : Prop where
  but : But b H H'
  box : Box H' b k
  hf : H' f = some (.lst xs)
  dp : DpAll K H' xs (acts.map eA)
  good : GoodA n acts
  rank : Ranked acts r
  rows : HRows H' p ps rows
theorem EHp.same {K : PySem.W.Frag} {H H' H2 : Hp} {b f p : Addr} {ps : List Addr} {rows : List (List (Option Int))} {n k : Nat} {r : Nat → Nat} {xs : List V} {acts : List Acty} (h : EHp K H H' b f p ps rows n k r xs acts) (s : Same H' H2) : EHp K H H2 b f p ps rows n k r xs acts :=
  ⟨h.but.tr s, h.box.same s, s _ _ h.hf, h.dp.same s, h.good, h.rank, h.rows.same s⟩
theorem EHp.but1 {K : PySem.W.Frag} {H H' H2 : Hp} {b f p : Addr} {ps : List Addr} {rows : List (List (Option Int))} {n k k2 : Nat} {r : Nat → Nat} {xs : List V} {acts : List Acty} (h : EHp K H H' b f p ps rows n k r xs acts) (s : But b H' H2) (hb : Box H2 b k2) (hf : f ≠ b) (hp : p ≠ b) (hq : ∀ q ∈ ps, q ≠ b) : EHp K H H2 b f p ps rows n k2 r xs acts :=
  ⟨h.but.trans s, hb, s _ _ hf h.hf, h.dp.keep (h.box.keep s) (flat_As _), h.good, h.rank, h.rows.but s hp hq⟩
theorem EHp.mono {K : PySem.W.Frag} {H H' : Hp} {b f p : Addr} {ps : List Addr} {rows : List (List (Option Int))} {n k k2 : Nat} {r : Nat → Nat} {xs : List V} {acts : List Acty} (h : EHp K H H' b f p ps rows n k r xs acts) (hk : k ≤ k2) : EHp K H H' b f p ps rows n k2 r xs acts :=
  ⟨h.but, h.box.mono hk, h.hf, h.dp, h.good, h.rank, h.rows⟩
theorem EHp.add {K : PySem.W.Frag} {H H' : Hp} {b f p : Addr} {ps : List Addr} {rows : List (List (Option Int))} {n k : Nat} {r : Nat → Nat} {xs : List V} {acts : List Acty} (h : EHp K H H' b f p ps rows n k r xs acts) (nf : H f = none) (hf : f ≠ b) (hp : p ≠ f) (hq : ∀ q ∈ ps, q ≠ f)
    {y : V} {x : Acty} (hy : Dp K H' y (eA x)) (hl : acts.length < 120) (g1 : x.1 < n) (g2 : x.2.1 < n) (g3 : x.1 ≠ x.2.1) (g4 : 0 ≤ x.2.2) (hr : r x.1 < r x.2.1) : EHp K H (upd H' f (.lst (xs ++ [y]))) b f p ps rows n k r (xs ++ [y]) (acts ++ [x]) := by
  have kt : KeepT H' (upd H' f (.lst (xs ++ [y]))) := KeepT.upd h.hf
  refine ⟨h.but.upd_free nf, h.box.upd_ne hf, upd_same, ?_, ⟨h.good.n20, by rw [List.length_append, List.length_singleton]; omega, fun a c d hm => ?_⟩, fun a c d hm => ?_, ⟨?_, h.rows.len, fun i q e rr er => ?_⟩⟩
  · rw [List.map_append]
    exact (h.dp.keep kt (flat_As _)).append (.cons (hy.keep kt rfl) .nil)
  · rcases List.mem_append.mp hm with z | z
    · exact h.good.ev a c d z
    · rw [List.mem_singleton] at z; subst z; exact ⟨g1, g2, g3, g4⟩
  · rcases List.mem_append.mp hm with z | z
    · exact h.rank a c d z
    · rw [List.mem_singleton] at z; subst z; exact hr
  · rw [upd_ne hp]; exact h.rows.at_
  · rw [upd_ne (hq q (List.mem_of_getElem? e))]; exact h.rows.row i q e rr er
section
variable {K : PySem.W.Frag} {mg : Str → Option Value} (T : TX K mg) {vs : List V} {H : Hp} {Q : VK} {E : XK}

theorem rd_law_even (h : sp_law_even T vs H Q E) : t_law_even T (rtE Q) (start N_law_even vs) H := by
  unfold t_law_even; walk_at "n"
  obtain ⟨b, v, n, acts, k, rfl, hd, hv, hb, hk, q⟩ := h
  have hlim : lim = 1000000 := rfl
  have h20 := hv.good.n20
  have h1n := hv.n1
  obtain ⟨pp, w, rfl, hp, hw⟩ := eP_inv hd
  obtain ⟨wa, ws, rfl, hsw, hdw⟩ := hw.tup_inv
  obtain ⟨r, hr⟩ := hv.rank
  refine ⟨_, rfl, pp, _, rfl, hp, rfl, _, _, rfl, _, _, rfl, rfl, ?_⟩
  refine ⟨_, rfl, _, rfl, n, _, acts, rfl, hw, hv.good, hv.rank, fun H1 p ps rows s1 hR np nps hT => ?_⟩
  have sq := A69.IsTab.square hT
  refine ⟨_, rfl, wa, ws, rfl, .inr (s1.tup hsw), fun f nf => ⟨_, _, rfl, ?_⟩⟩
  have sf := same_upd (o := .lst ws) nf
  have hfb := hb.ne (s1.free nf)
  have hpb := hb.ne np
  have hqb : ∀ q ∈ ps, q ≠ b := fun q hq => hb.ne (nps q hq)
  have hpf : p ≠ f := fun z => by have := hR.at_; rw [z, nf] at this; cases this
  have hqf : ∀ q ∈ ps, q ≠ f := fun q hq z => by
    obtain ⟨i, hi⟩ := List.mem_iff_getElem?.mp hq
    have hil : i < rows.length := by rw [← hR.len]; exact (List.getElem?_eq_some_iff.mp hi).1
    have := hR.row i q hi _ (List.getElem?_eq_getElem hil)
    rw [z, nf] at this; cases this
  have s02 := s1.trans sf
  have e0 : EHp K H (upd H1 f (.lst ws)) b f p ps rows n k r ws acts := ⟨.of s02, hb.same s02, upd_same, hdw.same s02, hv.good, hr, hR.same sf⟩
  refine ⟨_, rfl, by omega, by omega, ?_⟩
  have en : ((3 : Int)).toNat = 3 := rfl
  rw [en]
  refine for_it walk_range (fun i σ H' => ∃ xs acts' y2 y7 y8, σ = [some (.ref b), some (.ref pp), y2, some (.int (n : Nat)), some (.ref wa), some (.ref p), some (.ref f), y7, y8] ∧ EHp K H H' b f p ps rows n (k + 10 * i) r xs acts')
    ⟨ws, acts, _, _, _, rfl, e0⟩ (fun _ _ _ _ _ => trivial) ?_ ?_
  · rintro i x σ H2 H3 hi ⟨xs, acts', y2, y7, y8, rfl, e1⟩ ⟨rfl, rfl⟩
    walk_at "n"
    refine ⟨_, rfl, _, rfl, b, n, _, rfl, e1.box, by omega, h1n, by omega, fun H4 a s4 b4 ha => ?_⟩
    have e2 := e1.but1 s4 b4 hfb hpb hqb
    refine ⟨_, rfl, _, rfl, b, n, _, rfl, e2.box, by omega, h1n, by omega, fun H5 c s5 b5 hc => ⟨_, _, rfl, ?_⟩⟩
    have e3 := e2.but1 s5 b5 hfb hpb hqb
    refine ⟨_, rfl, _, rfl, rfl, _, rfl, ?_⟩
    by_cases hac : a = c
    · have z : decide (V.int (a : Int) = V.int (c : Int)) = true := by rw [hac]; exact decide_eq_true rfl
      rw [z]
      exact iteF (iteF ⟨xs, acts', _, _, _, rfl, e3.mono (by omega)⟩)
    · have z : decide (V.int (a : Int) = V.int (c : Int)) = false := decide_eq_false fun z => by injection z with z; omega
      rw [z]
      obtain ⟨qa, ys, ea, _, ta, _, hya⟩ := e3.rows.get sq ha
      have eac := hya c hc
      refine iteT ⟨_, rfl, _, rfl, p, _, _, .ref qa, rfl, rfl, .of e3.rows.at_, atI_nat ea, _, rfl, qa, ys, _, _, rfl, rfl, .of ta, atI_nat eac, rfl, _, rfl, ?_⟩
      rw [vO_non]
      cases hz : at2 rows a c with
      | none => exact iteF (iteF ⟨xs, acts', _, _, _, rfl, e3.mono (by omega)⟩)
      | some m =>
        rw [hz] at eac
        have hlx : xs.length = acts'.length := by rw [e3.dp.length, List.length_map]
        refine iteT ⟨_, rfl, f, _, rfl, .inl (.of e3.hf), _, _, rfl, rfl, _, rfl, ?_⟩
        by_cases hlt : (xs.length : Int) < 120
        · rw [decide_eq_true hlt]
          refine iteT ⟨_, rfl, .inl ⟨rfl, _, .inl (.inl e3.hf)⟩, _, rfl, _, rfl, _, rfl, _, rfl, p, _, _, .ref qa, rfl, rfl, .of e3.rows.at_, atI_nat ea, _, rfl, qa, ys, _, _, rfl, rfl, .of ta, atI_nat eac, _, rfl, ?_⟩
          refine ⟨b, 3, _, rfl, e3.box, by omega, by omega, by omega, fun H6 t s6 b6 ht => ⟨_, _, rfl, rfl, _, _, rfl, rfl, _, _, rfl, by show 3 ≤ sizeLine; decide, fun u nu => ?_⟩⟩
          have e4 := (e3.but1 s6 b6 hfb hpb hqb)
          generalize hD : (if m + (t : Int) - 1 > 0 then m + (t : Int) - 1 else 0) = D
          have hD0 : 0 ≤ D := by rw [← hD]; split <;> omega
          have e5 := e4.same (same_upd (o := .tup [.int (a : Nat), .int (c : Nat), .int D]) nu)
          refine ⟨f, _, _, rfl, rfl, e5.hf, small_line (by omega), ?_⟩
          refine ⟨_, acts' ++ [(a, c, D)], _, _, _, rfl, EHp.mono (e5.add (s1.free nf) hfb hpf hqf (.tup (.of upd_same) (.cons (.int _) (.cons (.int _) (.cons (.int _) .nil)))) (by omega) ha hc hac hD0 ?_) (by omega)⟩
          rcases ((hT.at_ a c ha hc).way m hz).rank hr with ⟨z, _⟩ | z
          · exact absurd z hac
          · exact z
        · rw [decide_eq_false hlt]
          exact iteF ⟨xs, acts', _, _, _, rfl, e3.mono (by omega)⟩
  · rintro σ H2 ⟨xs, acts', y2, y7, y8, rfl, e1⟩
    refine ⟨_, rfl, _, rfl, ?_⟩
    walk_at "n"
    refine sort_tuple (.of e1.hf) e1.dp fun H8 v8 s8 d8 => ⟨by show 2 ≤ sizeLine; decide, fun u nu => ?_⟩
    exact q _ _ _ ((e1.but.tr s8).upd_new nu) (.tup (.of upd_same) (.cons (.int _) (.cons (d8.same (same_upd nu)) .nil))) (valid_sort h1n e1.good ⟨r, e1.rank⟩) (((e1.box.same s8).same (same_upd nu)).mono (by omega))
end
end A69
end

section
set_option maxRecDepth 100000
set_option maxHeartbeats 2000000
/-! LRk: readings of the law: plans. -/
namespace A69
open PySem PySem.Spec PyProof.Rows L2 KX MP
local macro_rules | `(tactic| walk_at "n") => `(tactic| dsimp only [rtE, tRet, tAndV, tOrV, tNotV, tCB, tCons, tNil, tVar, tC, tOp, tUn, tChain, tTest, tB, tAnd, tOr, tNot, tIf, tIfS, tSeq, tAsg, tDrop, tNext, gName, tPar, tPar3, tTup, tLst, tCall, tBM, tBM0, tSl, tPart, tNoPart, gTup, gCons, gNil, gSub, iRng1, iRng2, iList, iTup, iEnumT, iRgV, tYes, tLstRg, tRg1])

theorem one_at {b : Nat} : ∀ {o : List Nat}, b ∈ o → ∃ j : Nat, o[j]? = some b := fun h => List.mem_iff_getElem?.mp h
theorem two_at {a b : Nat} : ∀ {o : List Nat}, [a, b].Sublist o → ∃ i j : Nat, i < j ∧ o[i]? = some a ∧ o[j]? = some b
  | [], h => by cases h
  | x :: o, h => by
    cases h with
    | cons _ h =>
      obtain ⟨i, j, h1, h2, h3⟩ := two_at h
      exact ⟨i + 1, j + 1, by omega, by simpa using h2, by simpa using h3⟩
    | cons_cons _ h =>
      obtain ⟨j, hj⟩ := one_at (h.subset List.mem_cons_self)
      exact ⟨0, j + 1, by omega, rfl, by simpa using hj⟩
theorem leads_sub {l o : List Nat} (h : l.Sublist o) {k : Nat} (h1 : k < l.length) (h2 : k + 1 < l.length) {d : Int} (hd : 0 ≤ d) : Leads o (l[k], l[k + 1], d) := by
  have e : l.drop k = l[k] :: l[k + 1] :: l.drop (k + 2) := by
    rw [List.drop_eq_getElem_cons h1, List.drop_eq_getElem_cons h2]
  have s : [l[k], l[k + 1]].Sublist o := by
    refine List.Sublist.trans ?_ h
    refine List.Sublist.trans ?_ (List.drop_sublist k l)
    rw [e]
    exact List.Sublist.cons₂ _ (List.Sublist.cons₂ _ (List.nil_sublist _))
  obtain ⟨i, j, a1, a2, a3⟩ := two_at s
  exact ⟨i, j, a1, a2, a3, hd⟩
/-- steps of a plan at hand -/
structure PHp (K : PySem.W.Frag) (H H' : Hp) (b o f : Addr) (k : Nat) (order : List Nat) (xs : List V) (acts : List Acty) : Prop where
  but : But b H H'
  box : Box H' b k
  ob : o ≠ b
  ho : H' o = some (.lst (nats order))
  hf : H' f = some (.lst xs)
  dp : DpAll K H' xs (acts.map eA)
  leads : ∀ x ∈ acts, Leads order x
def t_plan_end {mg : Str → Option Value} {K : PySem.W.Frag} (T : TX K mg) : TS := (tRet (tLst (tCons (tTup (tCons (tVar 3) (tCons (tCB (rTupleOf K) (tCons (tCB (rSortedD K) (tCons (tVar 5) tNil)) tNil)) tNil))) (tCons (tVar 4) tNil))))
def t_plan_tail {mg : Str → Option Value} {K : PySem.W.Frag} (T : TX K mg) : TS := (tSeq (tIfS (tTest (tOp rEq (tCall (sp_law_take T) [] E0 (tCons (tVar 0) (tCons (tC (.int 2)) tNil))) (tC (.int 0)))) (tSeq (tAsg (tLc (iList K (tVar 4)) (gName 7) (tTest (tOp rGtI (tCall (sp_law_take T) [] E0 (tCons (tVar 0) (tCons (tC (.int 4)) tNil))) (tC (.int 0)))) (tVar 7) [7]) (gName 6))
  (tAsg (tOp rCat (tVar 5) (tLc (iRng1 (tCons (tOp rSubI (tCB (rLenSeq K) (tCons (tVar 6) tNil)) (tC (.int 1))) tNil)) (gName 8) tYes (tTup (tCons (tOp (rIxL K) (tVar 6) (tVar 8)) (tCons (tOp (rIxL K) (tVar 6) (tOp rAddI (tVar 8) (tC (.int 1)))) (tCons (tCall (sp_law_duration T) [] E0 (tCons (tVar 0) (tCons (tVar 2) tNil))) tNil)))) [8])) (gName 5))) tNext)
  (tRet (tLst (tCons (tTup (tCons (tVar 3) (tCons (tCB (rTupleOf K) (tCons (tCB (rSortedD K) (tCons (tVar 5) tNil)) tNil)) tNil))) (tCons (tVar 4) tNil)))))
section
variable {K : PySem.W.Frag} {mg : Str → Option Value} (T : TX K mg) {vs : List V} {H : Hp} {Q : VK} {E : XK}

theorem plan_end {b o f : Addr} {k k0 n : Nat} {order : List Nat} {xs : List V} {acts : List Acty} {H' : Hp} {y1 y2 y6 y7 y8 : Option V} (p : PHp K H H' b o f k order xs acts) (hp : order.Perm (List.range n)) (h1 : 1 ≤ n) (h20 : n ≤ 20) (hl : acts.length ≤ 120) (hk : k ≤ k0)
    (q : ∀ H' p v o n acts, But b H H' → H p = none → H' p = some (.lst [v, o]) → Dp K H' v (eP n acts) → Valid n acts → Box H' b k0 → Q (.ref p) H') :
    t_plan_end T (rtE Q) [some (.ref b), y1, y2, some (.int (n : Nat)), some (.ref o), some (.ref f), y6, y7, y8] H' := by
  unfold t_plan_end; walk_at "n"
  refine ⟨_, rfl, _, rfl, ?_⟩
  refine sort_tuple (.of p.hf) p.dp fun H8 v8 s8 d8 => ⟨by show 2 ≤ sizeLine; decide, fun u nu => ⟨_, rfl, by show 2 ≤ sizeLine; decide, fun w nw => ?_⟩⟩
  obtain ⟨hg, hrk⟩ := leads_good h20 hp hl p.leads
  have s9 := same_upd (o := .tup [.int (n : Nat), v8]) nu
  have s10 := same_upd (o := .lst [.ref u, .ref o]) nw
  have bt := ((p.but.tr s8).tr s9)
  refine q _ w _ _ n _ (bt.tr s10) (bt.free nw (((p.box.same s8).same s9).ne nw)) upd_same ?_ (valid_sort h1 hg hrk) (((((p.box.same s8).same s9).same s10)).mono hk)
  exact Dp.same s10 (.tup (.of upd_same) (.cons (.int _) (.cons (d8.same s9) .nil)))
theorem plan_tail {b o f : Addr} {k k0 n : Nat} {order : List Nat} {xs : List V} {acts : List Acty} {H' : Hp} {g : Bool} {y1 y6 y7 y8 : Option V} (p : PHp K H H' b o f k order xs acts) (hp : order.Perm (List.range n)) (h1 : 1 ≤ n) (h20 : n ≤ 20) (hl : acts.length ≤ 100) (hk : k + 300 ≤ k0) (hk0 : k0 ≤ lim)
    (q : ∀ H' p v o n acts, But b H H' → H p = none → H' p = some (.lst [v, o]) → Dp K H' v (eP n acts) → Valid n acts → Box H' b k0 → Q (.ref p) H') :
    t_plan_tail T (rtE Q) [some (.ref b), y1, some (.bl g), some (.int (n : Nat)), some (.ref o), some (.ref f), y6, y7, y8] H' := by
  unfold t_plan_tail; walk_at "n"
  have hlim : lim = 1000000 := rfl
  have hol : order.length = n := by rw [hp.length_eq, List.length_range]
  refine ⟨_, rfl, b, 2, _, rfl, p.box, by omega, by omega, by omega, fun H2 r2 s2 b2 h2 => ⟨rfl, _, rfl, ?_⟩⟩
  have hfb : f ≠ b ∨ f = b := by
    by_cases z : f = b
    · exact .inr z
    · exact .inl z
  have hfb : f ≠ b := by
    rintro rfl
    obtain ⟨x, gg, m, c, e, _⟩ := p.box
    rw [p.hf] at e
    cases e
    have hl0 := p.dp
    have := hl0.length
    cases acts with
    | nil => simp at this
    | cons a0 l0 =>
      cases hl0 with
      | cons h _ => cases h
  have p2 : PHp K H H2 b o f (k + 1) order xs acts := ⟨p.but.trans s2, b2, p.ob, s2 _ _ p.ob p.ho, s2 _ _ hfb p.hf, p.dp.keep (p.box.keep s2) (flat_As _), p.leads⟩
  by_cases hz : decide (V.int (r2 : Int) = V.int 0) = true
  · rw [hz]
    refine iteT ?_
    refine lc_def ⟨_, rfl, o, rfl, ⟨_, .of p2.ho⟩, ?_⟩
    refine comp_box (walk_list (xs := nats order)) (K := K) (b := b) (k := k + 1) (t := 1) (fun i ds => ∃ l : List Nat, ds = l.map natD ∧ l.Sublist (order.take i)) p2.box (by rw [nats_len]; omega) ⟨[], rfl, List.nil_sublist _⟩ (fun i H x H' _ y => yat_same y) (fun H' bt => .of (bt _ _ p.ob p2.ho)) ?_ ?_
    · rintro i x H5 H6 ds hi bt ⟨rfl, ex⟩ bx ⟨l, rfl, hsub⟩ Qy Qn h1 h2
      rw [nats_len] at hi
      obtain ⟨e, he⟩ : ∃ e, order[i]? = some e := ⟨_, List.getElem?_eq_getElem hi⟩
      cases (nats_get he).symm.trans ex
      have htk : order.take (i + 1) = order.take i ++ [e] := by
        obtain ⟨a1, a2⟩ := List.getElem?_eq_some_iff.mp he
        rw [List.take_succ_eq_append_getElem a1, a2]
      walk_at "n"
      refine ⟨rfl, _, rfl, b, 4, _, rfl, bx, by omega, by omega, by omega, fun H7 r7 s7 b7 h7 => ⟨_, _, rfl, rfl, _, rfl, ?_⟩⟩
      by_cases hr : (r7 : Int) > 0
      · rw [decide_eq_true hr]
        refine iteT ⟨_, rfl, h1 (natD e) _ _ s7 (b7.mono (by omega)) (.int _) rfl ⟨l ++ [e], by simp, ?_⟩⟩
        rw [htk]; exact hsub.append (List.Sublist.refl _)
      · rw [decide_eq_false hr]
        refine iteF (h2 _ s7 (b7.mono (by omega)) ⟨l, rfl, ?_⟩)
        rw [htk]; exact hsub.trans (List.sublist_append_left _ _)
    · rintro L ys ds H5 bt hL eL dL ⟨l, rfl, hsub⟩ _ b5
      rw [nats_len] at hsub b5
      rw [List.take_length] at hsub
      have ey := nats_inv dL
      subst ey
      have hll : l.length ≤ n := by rw [← hol]; exact hsub.length_le
      have p5 : PHp K H H5 b o f (k + 1 + order.length * 1) order xs acts := ⟨p2.but.trans bt, b5, p.ob, bt _ _ p.ob p2.ho, bt _ _ hfb p2.hf, p2.dp.keep (p2.box.keep bt) (flat_As _), p.leads⟩
      have hLb : L ≠ b := p2.box.ne hL
      refine ⟨_, rfl, lc_def ⟨_, rfl, L, _, rfl, .inl (.of eL), _, _, rfl, rfl, _, rfl, by rw [nats_len]; omega, by rw [nats_len]; omega, ?_⟩⟩
      have en : (((nats l).length : Int) - 1).toNat = l.length - 1 := by rw [nats_len]; omega
      rw [en]
      refine comp_box walk_range (K := K) (b := b) (k := k + 1 + order.length * 1) (t := 7) (LdR order) p5.box (by omega) ⟨[], rfl, rfl, fun x hx => nomatch hx⟩ (fun i H x H' _ y => yfn_same y) (fun _ _ => trivial) ?_ ?_
      · rintro i x H6 H7 ds hi bt6 ⟨rfl, rfl⟩ bx hR Qy Qn h1 h2
        walk_at "n"
        have ei : (0 : Int) + (i : Int) = ((i : Nat) : Int) := by omega
        rw [ei]
        have eL6 := bt6 _ _ hLb eL
        have hi1 : i < l.length := by omega
        have hi2 : i + 1 < l.length := by omega
        refine ⟨rfl, iteT ⟨_, rfl, _, rfl, L, _, _, _, rfl, rfl, .of eL6, atI_nat (nats_get (List.getElem?_eq_getElem hi1)), _, rfl, _, rfl, _, _, rfl, rfl, L, _, ((i + 1 : Nat) : Int), _, rfl, congrArg V.int (by omega), .of eL6, atI_nat (nats_get (List.getElem?_eq_getElem hi2)), _, rfl, _, rfl, ?_⟩⟩
        have h19 : i * 7 ≤ 20 * 7 := Nat.mul_le_mul_right _ (by omega)
        refine ⟨b, g, _, rfl, bx, by omega, fun H8 d s8 b8 hd0 => ⟨by show 3 ≤ sizeLine; decide, fun u nu => ?_⟩⟩
        refine h1 (eA (l[i], l[i + 1], d)) _ _ (s8.upd_new nu) ((b8.same (same_upd nu)).mono (by rw [Nat.succ_mul]; omega)) (.tup (.of upd_same) (.cons (.int _) (.cons (.int _) (.cons (.int _) .nil)))) rfl ?_
        exact hR.add (leads_sub hsub hi1 hi2 hd0)
      · rintro D2 zs ds H6 bt6 hD2 eD2 dD2 ⟨acts2, rfl, hl2, hle2⟩ _ b6
        have h19 : (l.length - 1) * 7 ≤ 20 * 7 := Nat.mul_le_mul_right _ (by omega)
        have hlx : xs.length = acts.length := by rw [p.dp.length, List.length_map]
        have hlz : zs.length = acts2.length := by rw [dD2.length, List.length_map]
        refine ⟨f, D2, _, _, rfl, rfl, bt6 _ _ hfb p5.hf, eD2, Nat.le_of_lt (small_line (by omega)), fun t nt => ?_⟩
        have st := same_upd (o := .lst (xs ++ zs)) nt
        refine plan_end T (k := k + 1 + order.length * 1 + (l.length - 1) * 7) (k0 := k0) (xs := xs ++ zs) (acts := acts ++ acts2) ⟨(p5.but.trans bt6).tr st, b6.same st, p.ob, st _ _ (bt6 _ _ p.ob p5.ho), upd_same, ?_, ?_⟩ hp h1 h20 (by rw [List.length_append]; omega) (by omega) q
        · rw [List.map_append]
          exact ((p5.dp.keep (p5.box.keep bt6) (flat_As _)).append dD2).same st
        · intro x hx
          exact (List.mem_append.mp hx).elim (p.leads x) (hle2 x)
  · have hz' : decide (V.int (r2 : Int) = V.int 0) = false := by simpa using hz
    rw [hz']
    exact iteF (plan_end T p2 hp h1 h20 (by omega) (by omega) q)
end
end A69
end

section
set_option maxRecDepth 100000
set_option maxHeartbeats 2000000
/-! LRl: readings of the law: plans. -/
namespace A69
open PySem PySem.Spec PyProof.Rows L2 KX MP
local macro_rules | `(tactic| walk_at "n") => `(tactic| dsimp only [rtE, tRet, tAndV, tOrV, tNotV, tCB, tCons, tNil, tVar, tC, tOp, tUn, tChain, tTest, tB, tAnd, tOr, tNot, tIf, tIfS, tSeq, tAsg, tDrop, tNext, gName, tPar, tPar3, tTup, tLst, tCall, tBM, tBM0, tSl, tPart, tNoPart, gTup, gCons, gNil, gSub, iRng1, iRng2, iList, iTup, iEnumT, iRgV, tYes, tLstRg, tRg1])

def t_plan_mid {mg : Str → Option Value} {K : PySem.W.Frag} (T : TX K mg) : TS := (tSeq (tAsg (tCall (sp_law_mixed T) [] E0 (tCons (tVar 0) (tCons (tLstRg (tRg1 (tVar 3))) tNil))) (gName 4))
  (tSeq (tAsg (tIf (tTest (tOp rEq (tVar 3) (tC (.int 1)))) (tLst tNil) (tCall (sp_law_steps T) [] E0 (tCons (tVar 0) (tCons (tVar 4) (tCons (tIf (tB (tVar 1)) (tOp (rIxL K) (tLst (tCons (tOp rAddI (tC (.int 40)) (tCall (sp_law_take T) [] E0 (tCons (tVar 0) (tCons (tC (.int 61)) tNil)))) (tCons (tOp rAddI (tC (.int 16)) (tCall (sp_law_take T) [] E0 (tCons (tVar 0) (tCons (tC (.int 4)) tNil)))) tNil))) (tCall (sp_law_take T) [] E0 (tCons (tVar 0) (tCons (tC (.int 2)) tNil)))) (tCall (sp_law_take T) [] E0 (tCons (tVar 0) (tCons (tC (.int 12)) tNil)))) (tCons (tVar 2) tNil)))))) (gName 5))
  (tSeq (tIfS (tTest (tOp rEq (tCall (sp_law_take T) [] E0 (tCons (tVar 0) (tCons (tC (.int 2)) tNil))) (tC (.int 0)))) (tSeq (tAsg (tLc (iList K (tVar 4)) (gName 7) (tTest (tOp rGtI (tCall (sp_law_take T) [] E0 (tCons (tVar 0) (tCons (tC (.int 4)) tNil))) (tC (.int 0)))) (tVar 7) [7]) (gName 6))
  (tAsg (tOp rCat (tVar 5) (tLc (iRng1 (tCons (tOp rSubI (tCB (rLenSeq K) (tCons (tVar 6) tNil)) (tC (.int 1))) tNil)) (gName 8) tYes (tTup (tCons (tOp (rIxL K) (tVar 6) (tVar 8)) (tCons (tOp (rIxL K) (tVar 6) (tOp rAddI (tVar 8) (tC (.int 1)))) (tCons (tCall (sp_law_duration T) [] E0 (tCons (tVar 0) (tCons (tVar 2) tNil))) tNil)))) [8])) (gName 5))) tNext)
  (tRet (tLst (tCons (tTup (tCons (tVar 3) (tCons (tCB (rTupleOf K) (tCons (tCB (rSortedD K) (tCons (tVar 5) tNil)) tNil)) tNil))) (tCons (tVar 4) tNil)))))))
section
variable {K : PySem.W.Frag} {mg : Str → Option Value} (T : TX K mg) {vs : List V} {H : Hp} {Q : VK} {E : XK}

theorem plan_mid {b : Addr} {k k0 n : Nat} {H' : Hp} {wide g : Bool} {y4 y5 y6 y7 y8 : Option V} (bt : But b H H') (hb : Box H' b k) (h1 : 1 ≤ n) (h20 : n ≤ 20) (hk : k + 5000 ≤ k0) (hk0 : k0 ≤ lim)
    (q : ∀ H' p v o n acts, But b H H' → H p = none → H' p = some (.lst [v, o]) → Dp K H' v (eP n acts) → Valid n acts → Box H' b k0 → Q (.ref p) H') :
    t_plan_mid T (rtE Q) [some (.ref b), some (.bl wide), some (.bl g), some (.int (n : Nat)), y4, y5, y6, y7, y8] H' := by
  unfold t_plan_mid; walk_at "n"
  have hlim : lim = 1000000 := rfl
  refine ⟨_, rfl, _, rfl, n, rfl, .of_le (by omega) (by omega) (by omega) (by omega), fun l nl => ?_⟩
  rw [rg_nats]
  refine ⟨b, l, List.range n, k, rfl, .of upd_same, by rw [List.length_range]; omega, hb.same (same_upd nl), by rw [List.length_range]; omega, fun H2 o order s2 no eo hp b2 => ?_⟩
  rw [List.length_range] at b2
  have hol : order.length = n := by rw [hp.length_eq, List.length_range]
  have bt2 : But b H H2 := (bt.tr (same_upd nl)).trans s2
  have ob : o ≠ b := (hb.same (same_upd nl)).ne no
  refine ⟨_, rfl, rfl, _, rfl, ?_⟩
  by_cases hn : n = 1
  · have e : decide (V.int (n : Int) = V.int 1) = true := by rw [hn]; rfl
    rw [e]
    refine iteT ⟨Nat.zero_le _, fun f nf => ?_⟩
    have sf := same_upd (o := .lst []) nf
    exact plan_tail T (acts := []) (k := k + n) ⟨bt2.tr sf, b2.same sf, ob, sf _ _ eo, upd_same, .nil, fun x hx => nomatch hx⟩ hp h1 h20 (by simp) (by omega) hk0 q
  · have e : decide (V.int (n : Int) = V.int 1) = false := decide_eq_false fun z => by injection z with z; omega
    rw [e]
    have go : ∀ H3 count k3, But b H2 H3 → Box H3 b k3 → k3 ≤ k + n + 10 → count ≤ 100 → sp_law_steps T ([.ref b, .ref o, .int (count : Nat), .bl g] ++ []) H3 (fun x H1 => t_plan_tail T (rtE Q) [some (.ref b), some (.bl wide), some (.bl g), some (.int (n : Nat)), some (.ref o), some x, y6, y7, y8] H1) E0 := by
      intro H3 count k3 s3 b3 hk3 hc
      refine ⟨b, o, order, count, k3, g, rfl, s3 _ _ ob eo, ob, by omega, by omega, hc, b3, by omega, fun H4 f xs acts s4 nf ef df hl hle b4 => ?_⟩
      have bt4 := (bt2.trans s3).trans s4
      exact plan_tail T (k := k3 + 20 * count) ⟨bt4, b4, ob, s4 _ _ ob (s3 _ _ ob eo), ef, df, hle⟩ hp h1 h20 (by omega) (by omega) hk0 q
    refine iteF ⟨_, rfl, _, rfl, _, rfl, wide, rfl, ?_⟩
    cases wide with
    | false =>
      refine iteF ⟨_, rfl, b, 12, _, rfl, b2, by omega, by omega, by omega, fun H3 r3 s3 b3 h3 => ⟨_, rfl, ?_⟩⟩
      exact go H3 r3 _ s3 b3 (by omega) (by omega)
    | true =>
      refine iteT ⟨_, rfl, b, 61, _, rfl, b2, by omega, by omega, by omega, fun H3 r3 s3 b3 h3 => ⟨_, _, rfl, rfl, ?_⟩⟩
      refine ⟨_, rfl, b, 4, _, rfl, b3, by omega, by omega, by omega, fun H4 r4 s4 b4 h4 => ⟨_, _, rfl, rfl, by show 2 ≤ sizeLine; decide, fun p np => ?_⟩⟩
      refine ⟨_, rfl, b, 2, _, rfl, b4.same (same_upd np), by omega, by omega, by omega, fun H5 r5 s5 b5 h5 => ?_⟩
      have e5 := s5 _ _ ((b4.ne np)) upd_same
      have s25 : But b H2 H5 := (((s3.trans s4).tr (same_upd np)).trans s5)
      have hr5 : r5 = 0 ∨ r5 = 1 := by omega
      rcases hr5 with rfl | rfl
      · refine ⟨p, _, _, _, rfl, rfl, .of e5, atI_nat (j := 0) rfl, _, rfl, ?_⟩
        have := go H5 (40 + r3) _ s25 b5 (by omega) (by omega)
        rw [show ((40 + r3 : Nat) : Int) = 40 + (r3 : Int) by omega] at this
        exact this
      · refine ⟨p, _, _, _, rfl, rfl, .of e5, atI_nat (j := 1) rfl, _, rfl, ?_⟩
        have := go H5 (16 + r4) _ s25 b5 (by omega) (by omega)
        rw [show ((16 + r4 : Nat) : Int) = 16 + (r4 : Int) by omega] at this
        exact this
theorem rd_law_plan (h : sp_law_plan T vs H Q E) : t_law_plan T (rtE Q) (start N_law_plan vs) H := by
  unfold t_law_plan; walk_at "n"
  obtain ⟨b, wide, g, k, rfl, hb, hk, q⟩ := h
  have hlim : lim = 1000000 := rfl
  refine ⟨_, rfl, wide, rfl, ?_⟩
  cases wide with
  | true => exact iteT (plan_mid T (n := 20) (k := k) (But.refl _ _) hb (by omega) (by omega) (by omega) (by omega) q)
  | false =>
    refine iteF ⟨_, rfl, b, 7, _, rfl, hb, by omega, by omega, by omega, fun H3 r3 s3 b3 h3 => ⟨_, _, rfl, rfl, ?_⟩⟩
    have := plan_mid T (wide := false) (g := g) (y4 := none) (y5 := none) (y6 := none) (y7 := none) (y8 := none) (n := 1 + r3) (k := k + 1) s3 b3 (by omega) (by omega) (by omega) (by omega) q
    rw [show ((1 + r3 : Nat) : Int) = 1 + (r3 : Int) by omega] at this
    exact this
end
end A69
end

section
set_option maxRecDepth 100000
set_option maxHeartbeats 2000000
/-! LRm: readings of the law: what is asked. -/
namespace A69
open PySem PySem.Spec PyProof.Rows L2 KX MP
local macro_rules | `(tactic| walk_at "n") => `(tactic| dsimp only [rtE, tRet, tAndV, tOrV, tNotV, tCB, tCons, tNil, tVar, tC, tOp, tUn, tChain, tTest, tB, tAnd, tOr, tNot, tIf, tIfS, tSeq, tAsg, tDrop, tNext, gName, tPar, tPar3, tTup, tLst, tCall, tBM, tBM0, tSl, tPart, tNoPart, gTup, gCons, gNil, gSub, iRng1, iRng2, iList, iTup, iEnumT, iRgV, tYes, tLstRg, tRg1])

def asked_cl {mg : Str → Option Value} {K : PySem.W.Frag} (T : TX K mg) : List (Value × Option Nat × Suite) := [(.ref T.c_InvalidPlan, some 3, fun a cls d => (tRet (tLst (tCons (tC (.str "plan")) (tCons (tXf a cls d T.c_InvalidPlan "given" (tVar 3)) tNil))))), (.ref T.c_InvalidActivity, some 3, fun a cls d => (tRet (tLst (tCons (tC (.str "activity")) (tCons (tXf a cls d T.c_InvalidActivity "given" (tVar 3)) tNil))))), (.ref T.c_TooMany, some 3, fun a cls d => (tRet (tLst (tCons (tC (.str "many")) (tCons (tXf a cls d T.c_TooMany "count" (tVar 3)) tNil)))))]
section
variable {K : PySem.W.Frag} {mg : Str → Option Value} (T : TX K mg) {vs : List V} {H : Hp} {Q : VK} {E : XK}

abbrev AskE (D : Ends) (σ : L2.St) : XK := fun cls d H' => wClauses K (fun _ _ _ _ => False) D (asked_cl T) cls d σ H'
theorem ask_plan {D : Ends} {x y z : Option V} {v : V} (h : Tells H D.rt "plan" fun u _ => u = v) : Throws (AskE T D [x, y, z, none]) H T.c_InvalidPlan "given" v := by
  intro H' e s ne he
  refine ⟨true, T.e_InvalidPlan_InvalidPlan, fun _ a na => ?_, fun z => nomatch z⟩
  walk_at "n"
  refine ⟨_, rfl, rfl, rfl, e, _, v, rfl, he, rfl, by show 2 ≤ sizeLine; decide, fun p np => ?_⟩
  exact h _ p v (s.upd np) upd_same rfl
theorem ask_activity {D : Ends} {x y z : Option V} {v : V} (h : Tells H D.rt "activity" fun u _ => u = v) : Throws (AskE T D [x, y, z, none]) H T.c_InvalidActivity "given" v := by
  intro H' e s ne he
  refine ⟨false, T.e_InvalidActivity_InvalidPlan, (fun z => nomatch z), fun _ => ⟨true, T.e_InvalidActivity_InvalidActivity, fun _ a na => ?_, fun z => nomatch z⟩⟩
  walk_at "n"
  refine ⟨_, rfl, rfl, rfl, e, _, v, rfl, he, rfl, by show 2 ≤ sizeLine; decide, fun p np => ?_⟩
  exact h _ p v (s.upd np) upd_same rfl
theorem ask_many {D : Ends} {x y z : Option V} {v : V} (h : Tells H D.rt "many" fun u _ => u = v) : Throws (AskE T D [x, y, z, none]) H T.c_TooMany "count" v := by
  intro H' e s ne he
  refine ⟨false, T.e_TooMany_InvalidPlan, (fun z => nomatch z), fun _ => ⟨false, T.e_TooMany_InvalidActivity, (fun z => nomatch z), fun _ => ⟨true, T.e_TooMany_TooMany, fun _ a na => ?_, fun z => nomatch z⟩⟩⟩
  walk_at "n"
  refine ⟨_, rfl, rfl, rfl, e, _, v, rfl, he, rfl, by show 2 ≤ sizeLine; decide, fun p np => ?_⟩
  exact h _ p v (s.upd np) upd_same rfl
theorem told_ {ok : V → Hp → Prop} (h : Tells H Q "told" ok) {H' : Hp} {v : V} (s : Same H H') (hv : ∀ p, H' p = none → ok v (upd H' p (.lst [.str "told", v]))) :
    [V.str "told", v].length ≤ sizeLine ∧ ∀ p, H' p = none → Q (.ref p) (upd H' p (.lst [.str "told", v])) :=
  ⟨by show 2 ≤ sizeLine; decide, fun p np => h _ p v (s.upd np) upd_same (hv p np)⟩
theorem rd_law_asked (h : sp_law_asked T vs H Q E) : t_law_asked T (rtE Q) (start N_law_asked vs) H := by
  unfold t_law_asked; walk_at "n"
  obtain ⟨which, turn, a, xs, v, d, rfl, hs, hx0, hd, hp, hcase⟩ := h
  have hix : atI xs 0 = some v := atI_nat (j := 0) hx0
  refine ⟨_, rfl, rfl, _, rfl, ?_⟩
  rcases hcase with ⟨rfl, hc⟩ | ⟨rfl, hc⟩ | ⟨rfl, w, x, hx1, hw, hc⟩
  · refine iteT ?_
    have key : sp_closure T [v] H (fun x H1 => [V.str "told", x].length ≤ sizeLine ∧ ∀ p, H1 p = none → Q (.ref p) (upd H1 p (.lst [.str "told", x]))) (AskE T (rtE Q) [some (.int 0), some (.ref a), some (.int turn), none]) := by
      refine ⟨v, d, rfl, hd, fun n acts e hv rows ht => ⟨fun hl H' v' s d' => ?_, fun hl => ?_⟩, fun hn => ask_plan T (hp hn)⟩
      · exact told_ ((hc n acts e hv rows ht).1 hl) s fun p np => d'.same (same_upd np)
      · exact ask_many T ((hc n acts e hv rows ht).2 hl)
    refine ⟨_, rfl, rfl, _, rfl, ?_⟩
    by_cases ht : decide (V.int turn = V.int 0) = true
    · rw [ht]
      exact iteT ⟨_, rfl, a, xs, _, _, rfl, rfl, hs, hix, key⟩
    · have ht' : decide (V.int turn = V.int 0) = false := by simpa using ht
      rw [ht']
      exact iteF ⟨_, rfl, a, xs, _, _, rfl, rfl, hs, hix, key⟩
  · refine iteF ⟨_, rfl, rfl, _, rfl, iteT ?_⟩
    have key : sp_reduced T [v] H (fun x H1 => [V.str "told", x].length ≤ sizeLine ∧ ∀ p, H1 p = none → Q (.ref p) (upd H1 p (.lst [.str "told", x]))) (AskE T (rtE Q) [some (.int 1), some (.ref a), some (.int turn), none]) := by
      refine ⟨v, d, rfl, hd, fun n acts e hv rows ht H' v' s d' => ?_, fun hn => ask_plan T (hp hn)⟩
      exact told_ (hc n acts e hv rows ht) s fun p np => d'.same (same_upd np)
    refine ⟨_, rfl, rfl, _, rfl, ?_⟩
    by_cases ht : decide (V.int turn = V.int 0) = true
    · rw [ht]
      exact iteT ⟨_, rfl, a, xs, _, _, rfl, rfl, hs, hix, key⟩
    · have ht' : decide (V.int turn = V.int 0) = false := by simpa using ht
      rw [ht']
      exact iteF ⟨_, rfl, a, xs, _, _, rfl, rfl, hs, hix, key⟩
  · refine iteF ⟨_, rfl, rfl, _, rfl, iteF ?_⟩
    have hix1 : atI xs 1 = some w := atI_nat (j := 1) hx1
    have key : sp_is_spare T [v, w] H (fun x H1 => [V.str "told", x].length ≤ sizeLine ∧ ∀ p, H1 p = none → Q (.ref p) (upd H1 p (.lst [.str "told", x]))) (AskE T (rtE Q) [some (.int 2), some (.ref a), some (.int turn), none]) := by
      refine ⟨v, d, w, x, rfl, hd, hw, fun n acts e hv => ⟨fun k ek hk r1 r2 t1 t2 H' s => ?_, fun hi => ?_⟩, fun hn => ask_plan T (hp hn)⟩
      · exact told_ ((hc n acts e hv).1 k ek hk r1 r2 t1 t2) s fun p np => rfl
      · exact ask_activity T ((hc n acts e hv).2 hi)
    refine ⟨_, rfl, rfl, _, rfl, ?_⟩
    by_cases ht : decide (V.int turn = V.int 0) = true
    · rw [ht]
      exact iteT ⟨_, rfl, a, xs, _, _, rfl, rfl, hs, hix, _, rfl, a, xs, _, _, rfl, rfl, hs, hix1, key⟩
    · have ht' : decide (V.int turn = V.int 0) = false := by simpa using ht
      rw [ht']
      exact iteF ⟨_, rfl, a, xs, _, _, rfl, rfl, hs, hix1, _, rfl, a, xs, _, _, rfl, rfl, hs, hix, key⟩
end
end A69
end

section
set_option maxRecDepth 100000
set_option maxHeartbeats 2000000
/-! LRn: readings of the law: literals. -/
namespace A69
open PySem PySem.Spec PyProof.Rows L2 KX MP
local macro_rules | `(tactic| walk_at "n") => `(tactic| dsimp only [rtE, tRet, tAndV, tOrV, tNotV, tCB, tCons, tNil, tVar, tC, tOp, tUn, tChain, tTest, tB, tAnd, tOr, tNot, tIf, tIfS, tSeq, tAsg, tDrop, tNext, gName, tPar, tPar3, tTup, tLst, tCall, tBM, tBM0, tSl, tPart, tNoPart, gTup, gCons, gNil, gSub, iRng1, iRng2, iList, iTup, iEnumT, iRgV, tYes, tLstRg, tRg1])

theorem same_del {H1 H : Hp} {D : Addr} (s : Same H1 H) (n : H1 D = none) : Same H1 (del H D) := fun b o e => by
  have : b ≠ D := fun z => by rw [z, n] at e; cases e
  rw [del_ne this]; exact s b o e
theorem del_sub {H : Hp} {D : Addr} : Same (del H D) H := fun b o e => by
  by_cases z : b = D
  · rw [z, del_same] at e; cases e
  · rw [del_ne z] at e; exact e
theorem del_upd {H : Hp} {D : Addr} {o : HO} : del (upd H D o) D = del H D := by
  funext b
  by_cases z : b = D
  · rw [z, del_same, del_same]
  · rw [del_ne z, del_ne z, upd_ne z]
theorem del_mono {H H' : Hp} {D : Addr} (s : Same H H') : Same (del H D) (del H' D) := fun b o e => by
  by_cases z : b = D
  · rw [z, del_same] at e; cases e
  · rw [del_ne z] at e ⊢; exact s b o e
theorem but_del {b : Addr} {H H' : Hp} (s : But b H H') : Same (del H b) H' := fun a o e => by
  by_cases z : a = b
  · rw [z, del_same] at e; cases e
  · rw [del_ne z] at e; exact s _ _ z e
theorem keep_del {H : Hp} {b : Addr} {xs : List V} (h : H b = some (.lst xs)) : KeepT H (del H b) := But.keepT (fun a o n e => by rw [del_ne n]; exact e) h
theorem ne_b {H0 H1 : Hp} {b p : Addr} {o : HO} (h : H0 b = some o) (s : Same H0 H1) (n : H1 p = none) : p ≠ b := fun z => by rw [z, s _ _ h] at n; cases n
/-- a value made since H0, as data, none of it the object at b -/
def MkV (K : PySem.W.Frag) (b : Addr) (H0 H : Hp) (v : V) (d : PyData) : Prop := Dp K (del H b) v d ∧ (isLst d = true → ∃ a xs ds, v = .ref a ∧ d = .list ds ∧ H0 a = none ∧ H a = some (.lst xs) ∧ DpAll K (del (del H a) b) xs ds)
inductive MVs (K : PySem.W.Frag) (b : Addr) (H0 H : Hp) : List V → List PyData → Prop
  | nil : MVs K b H0 H [] []
  | cons {v : V} {d : PyData} {vs : List V} {ds : List PyData} : MkV K b H0 H v d → MVs K b H0 H vs ds → MVs K b H0 H (v :: vs) (d :: ds)
section
variable {K : PySem.W.Frag} {b : Addr} {H0 H H' : Hp}
theorem MkV.same {v : V} {d : PyData} (h : MkV K b H0 H v d) (s : Same H H') : MkV K b H0 H' v d := ⟨h.1.same (del_mono s), fun e => by
  obtain ⟨a, xs, ds, e1, e4, e2, e3, e5⟩ := h.2 e
  exact ⟨a, xs, ds, e1, e4, e2, s _ _ e3, e5.same (del_mono (del_mono s))⟩⟩
theorem MVs.same {vs : List V} {ds : List PyData} (h : MVs K b H0 H vs ds) (s : Same H H') : MVs K b H0 H' vs ds := by
  induction h with
  | nil => exact .nil
  | cons a _ ih => exact .cons (a.same s) ih
theorem MVs.dp {vs : List V} {ds : List PyData} (h : MVs K b H0 H vs ds) : DpAll K (del H b) vs ds := by
  induction h with
  | nil => exact .nil
  | cons a _ ih => exact .cons a.1 ih
theorem MVs.append {vs ws : List V} {ds es : List PyData} (h : MVs K b H0 H vs ds) (g : MVs K b H0 H ws es) : MVs K b H0 H (vs ++ ws) (ds ++ es) := by
  induction h with
  | nil => exact g
  | cons a _ ih => exact .cons a ih
theorem MVs.length {vs : List V} {ds : List PyData} (h : MVs K b H0 H vs ds) : vs.length = ds.length := h.dp.length
theorem MVs.get {vs : List V} {ds : List PyData} (h : MVs K b H0 H vs ds) : ∀ {i : Nat} {d : PyData}, ds[i]? = some d → ∃ v, vs[i]? = some v ∧ MkV K b H0 H v d := by
  induction h with
  | nil => intro i d e; simp at e
  | cons a _ ih =>
    intro i d e
    cases i with
    | zero => simp at e; subst e; exact ⟨_, rfl, a⟩
    | succ i => simpa using ih (by simpa using e)
theorem MVs.nolist {vs : List V} {ds : List PyData} (h : DpAll K (del H b) vs ds) (n : ∀ d ∈ ds, isLst d = false) : MVs K b H0 H vs ds := by
  induction ds generalizing vs with
  | nil => cases h; exact .nil
  | cons d ds ih =>
    cases h with
    | cons a t => exact .cons ⟨a, fun e => by rw [n d List.mem_cons_self] at e; cases e⟩ (ih t fun x hx => n x (List.mem_cons_of_mem _ hx))
end
/-- a term makes data, anew -/
def Mk (K : PySem.W.Frag) (b : Addr) (H0 : Hp) (σ : L2.St) (te : TE) (d : PyData) : Prop := ∀ H1, Same H0 H1 → ∀ Q : VK, (∀ H' v, Same H1 H' → MkV K b H0 H' v d → Q v H') → te σ H1 Q
def MkA (K : PySem.W.Frag) (b : Addr) (H0 : Hp) (σ : L2.St) (ta : TA) (ds : List PyData) : Prop := ∀ H1, Same H0 H1 → ∀ Q : List V → Hp → Prop, (∀ H' vs, Same H1 H' → MVs K b H0 H' vs ds → Q vs H') → ta σ H1 Q
section
variable {K : PySem.W.Frag} {b : Addr} {H0 : Hp} {σ : L2.St}
theorem mk_nil : MkA K b H0 σ tNil [] := fun H1 _ Q q => q H1 [] (Same.refl _) .nil
theorem mk_cons {te : TE} {ta : TA} {d : PyData} {ds : List PyData} (h : Mk K b H0 σ te d) (g : MkA K b H0 σ ta ds) : MkA K b H0 σ (tCons te ta) (d :: ds) := fun H1 s Q q =>
  h H1 s _ fun H2 v s2 dv => g H2 (s.trans s2) _ fun H3 vs s3 dvs => q H3 _ (s2.trans s3) (.cons (dv.same s3) dvs)
theorem mk_tup {ta : TA} {ds : List PyData} {ob : HO} (hb : H0 b = some ob) (g : MkA K b H0 σ ta ds) (hl : ds.length ≤ 1000) : Mk K b H0 σ (tTup ta) (.tuple ds) := fun H1 s Q q =>
  g H1 s _ fun H2 vs s2 dvs => ⟨by have : (1000 : Nat) ≤ sizeLine := by decide
                                   have := dvs.length
                                   omega, fun p np => q _ _ (s2.upd np) ⟨.tup (.of (by rw [del_ne (ne_b hb (s.trans s2) np)]; exact upd_same)) (dvs.dp.same (del_mono (same_upd np))), fun e => nomatch e⟩⟩
theorem mk_lst {ta : TA} {ds : List PyData} {ob : HO} (hb : H0 b = some ob) (g : MkA K b H0 σ ta ds) (hl : ds.length ≤ 1000) : Mk K b H0 σ (tLst ta) (.list ds) := fun H1 s Q q =>
  g H1 s _ fun H2 vs s2 dvs => ⟨by have : (1000 : Nat) ≤ sizeLine := by decide
                                   have := dvs.length
                                   omega, fun p np => q _ _ (s2.upd np) ⟨.lst (.of (by rw [del_ne (ne_b hb (s.trans s2) np)]; exact upd_same)) (dvs.dp.same (del_mono (same_upd np))), fun _ => ⟨p, vs, ds, rfl, rfl, (s.trans s2).free np, upd_same, by rw [del_upd]; exact dvs.dp.same (del_mono (same_del (Same.refl _) np))⟩⟩⟩
def MkL (K : PySem.W.Frag) (b : Addr) (H0 : Hp) (σ : L2.St) (te : TE) (ds : List PyData) : Prop := ∀ H1, Same H0 H1 → ∀ Q : VK, (∀ H' p vs, Same H1 H' → H1 p = none → H' p = some (.lst vs) → MVs K b H0 H' vs ds → Q (.ref p) H') → te σ H1 Q
theorem mkl {ta : TA} {ds : List PyData} {ob : HO} (hb : H0 b = some ob) (g : MkA K b H0 σ ta ds) (hl : ds.length ≤ 1000) : MkL K b H0 σ (tLst ta) ds := fun H1 s Q q =>
  g H1 s _ fun H2 vs s2 dvs => ⟨by have : (1000 : Nat) ≤ sizeLine := by decide
                                   have := dvs.length
                                   omega, fun p np => q _ p vs (s2.upd np) (s2.free np) upd_same (dvs.same (same_upd np))⟩
theorem mk_int {i : Int} : Mk K b H0 σ (tC (.int i)) (.int i) := fun H1 _ Q q => q H1 _ (Same.refl _) ⟨.int i, fun e => nomatch e⟩
theorem mk_non : Mk K b H0 σ (tC .non) .none := fun H1 _ Q q => q H1 _ (Same.refl _) ⟨.non, fun e => nomatch e⟩
theorem mk_bl {i : Bool} : Mk K b H0 σ (tC (.bl i)) (.bool i) := fun H1 _ Q q => q H1 _ (Same.refl _) ⟨.bl i, fun e => nomatch e⟩
theorem mk_str {x : Str} : Mk K b H0 σ (tC (.str x)) (.str x) := fun H1 _ Q q => q H1 _ (Same.refl _) ⟨.str x, fun e => nomatch e⟩
theorem mk_var {i : Nat} {v : V} {d : PyData} (e : σ[i]? = some (some v)) (h : Dp K (del H0 b) v d) (hn : isLst d = false) : Mk K b H0 σ (tVar i) d := fun H1 s Q q => ⟨v, e, q H1 v (Same.refl _) ⟨h.same (del_mono s), fun z => by rw [hn] at z; cases z⟩⟩
theorem mk_neg {i : Int} : Mk K b H0 σ (tUn rNeg (tC (.int i))) (.int (-i)) := fun H1 _ Q q => ⟨i, rfl, q H1 _ (Same.refl _) ⟨.int _, fun e => nomatch e⟩⟩
theorem mk_listOf {i : Nat} {v : V} {ds : List PyData} {ob : HO} (hb : H0 b = some ob) (e : σ[i]? = some (some v)) (h : Dp K (del H0 b) v (.tuple ds)) : Mk K b H0 σ (tCB (rListOf K) (tCons (tVar i) tNil)) (.list ds) := fun H1 s Q q => by
  obtain ⟨p, xs, rfl, hs, ha⟩ := h.tup_inv
  exact ⟨_, e, p, xs, rfl, .inr ((del_sub.trans s).tup hs), fun l nl => q _ _ (same_upd nl) ⟨.lst (.of (by rw [del_ne (ne_b hb s nl)]; exact upd_same)) ((ha.same (del_mono s)).same (del_mono (same_upd nl))), fun _ => ⟨l, xs, ds, rfl, rfl, s.free nl, upd_same, by rw [del_upd]; exact (ha.same (del_mono s)).same (del_mono (same_del (Same.refl _) nl))⟩⟩⟩
theorem rep_dp {K : PySem.W.Frag} {H : Hp} {v : V} {d : PyData} (h : Dp K H v d) : ∀ k : Nat, DpAll K H (List.replicate k v) (List.replicate k d)
  | 0 => .nil
  | k + 1 => .cons h (rep_dp h k)
theorem mk_rep {te : TE} {d : PyData} {k : Nat} {ob : HO} (hb : H0 b = some ob) (h : Mk K b H0 σ te d) (h2 : 2 ≤ k) (hk : k ≤ 1000) : Mk K b H0 σ (tOp (rRepT K) (tTup (tCons te tNil)) (tC (.int (k : Int)))) (.tuple (List.replicate k d)) := fun H1 s Q q =>
  h H1 s _ fun H2 v s2 dv => ⟨by show 1 ≤ sizeLine; decide, fun p np => ⟨p, (k : Int), [v], rfl, rfl, .of upd_same, by simp, by omega, by omega, by simp, fun u nu => by
    have e : (List.replicate (k : Int).toNat [v]).flatten = List.replicate k v := by rw [Int.toNat_natCast, rep_flat]
    rw [e]
    have s3 := (same_upd (o := .tup [v]) np).trans (same_upd (o := .tup (List.replicate k v)) nu)
    exact q _ _ (s2.trans s3) ⟨.tup (.of (by rw [del_ne (ne_b hb ((s.trans s2).trans (same_upd np)) nu)]; exact upd_same)) (rep_dp (dv.1.same (del_mono s3)) k), fun e => nomatch e⟩⟩⟩
end
end A69
end

section
set_option maxRecDepth 100000
set_option maxHeartbeats 2000000
/-! LRo: readings of the law: values that are no plan. -/
namespace A69
open PySem PySem.Spec PyProof.Rows L2 KX MP
local macro_rules | `(tactic| walk_at "n") => `(tactic| dsimp only [rtE, tRet, tAndV, tOrV, tNotV, tCB, tCons, tNil, tVar, tC, tOp, tUn, tChain, tTest, tB, tAnd, tOr, tNot, tIf, tIfS, tSeq, tAsg, tDrop, tNext, gName, tPar, tPar3, tTup, tLst, tCall, tBM, tBM0, tSl, tPart, tNoPart, gTup, gCons, gNil, gSub, iRng1, iRng2, iList, iTup, iEnumT, iRgV, tYes, tLstRg, tRg1])

def tb_w : TE := (tLst (tCons (tTup (tCons (tC (.int 0)) (tCons (tC (.int 0)) (tCons (tC (.int 1)) tNil)))) (tCons (tTup (tCons (tC (.int 0)) (tCons (tVar 4) (tCons (tC (.int 1)) tNil)))) (tCons (tTup (tCons (tVar 4) (tCons (tC (.int 0)) (tCons (tC (.int 1)) tNil)))) (tCons (tTup (tCons (tC (.int 0)) (tCons (tC (.int 1)) (tCons (tUn rNeg (tC (.int 1))) tNil)))) (tCons (tTup (tCons (tC (.int 0)) (tCons (tC (.int 1)) tNil))) (tCons (tLst (tCons (tC (.int 0)) (tCons (tC (.int 1)) (tCons (tC (.int 2)) tNil)))) (tCons (tTup (tCons (tC (.int 0)) (tCons (tC (.int 1)) (tCons (tC .non) tNil)))) (tCons (tTup (tCons (tC (.int 0)) (tCons (tC (.int 1)) (tCons (tC (.bl true)) tNil)))) (tCons (tTup (tCons (tC (.bl true)) (tCons (tC (.int 0)) (tCons (tC (.int 2)) tNil)))) (tCons (tTup (tCons (tC (.int 0)) (tCons (tC (.int 1)) (tCons (tC (.int 2)) (tCons (tC (.int 3)) tNil))))) (tCons (tC .non) (tCons (tTup (tCons (tC (.int 0)) (tCons (tC (.int 1)) (tCons (tC (.str "1")) tNil)))) tNil)))))))))))))
def tb_a (K : PySem.W.Frag) : TE := (tLst (tCons (tTup (tCons (tC (.int 0)) (tCons (tTup tNil) tNil))) (tCons (tTup (tCons (tC (.int 21)) (tCons (tTup tNil) tNil))) (tCons (tTup (tCons (tC (.bl true)) (tCons (tTup tNil) tNil))) (tCons (tTup (tCons (tC (.str "2")) (tCons (tTup tNil) tNil))) (tCons (tTup (tCons (tVar 4) (tCons (tCB (rListOf K) (tCons (tVar 5) tNil)) tNil))) (tCons (tLst (tCons (tVar 4) (tCons (tVar 5) tNil))) (tCons (tTup (tCons (tVar 4) tNil)) (tCons (tTup (tCons (tVar 4) (tCons (tVar 5) (tCons (tTup tNil) tNil)))) (tCons (tC .non) tNil))))))))))
def tb_b : TE := (tLst (tCons (tTup (tCons (tC (.int 2)) (tCons (tTup (tCons (tTup (tCons (tC (.int 0)) (tCons (tC (.int 1)) (tCons (tC (.int 0)) tNil)))) (tCons (tTup (tCons (tC (.int 1)) (tCons (tC (.int 0)) (tCons (tC (.int 0)) tNil)))) tNil))) tNil))) (tCons (tTup (tCons (tC (.int 3)) (tCons (tTup (tCons (tTup (tCons (tC (.int 0)) (tCons (tC (.int 1)) (tCons (tC (.int 2)) tNil)))) (tCons (tTup (tCons (tC (.int 1)) (tCons (tC (.int 2)) (tCons (tC (.int 0)) tNil)))) (tCons (tTup (tCons (tC (.int 2)) (tCons (tC (.int 0)) (tCons (tC (.int 1)) tNil)))) tNil)))) tNil))) (tCons (tTup (tCons (tC (.int 3)) (tCons (tTup (tCons (tTup (tCons (tC (.int 0)) (tCons (tC (.int 2)) (tCons (tC (.int 2)) tNil)))) (tCons (tTup (tCons (tC (.int 0)) (tCons (tC (.int 1)) (tCons (tC (.int 3)) tNil)))) tNil))) tNil))) (tCons (tTup (tCons (tC (.int 2)) (tCons (tTup (tCons (tTup (tCons (tC (.int 0)) (tCons (tC (.int 1)) (tCons (tC (.int 3)) tNil)))) (tCons (tTup (tCons (tC (.int 0)) (tCons (tC (.int 1)) (tCons (tC (.int 2)) tNil)))) tNil))) tNil))) tNil)))))
def tb_c (K : PySem.W.Frag) : TE := (tLst (tCons (tTup (tCons (tC (.int 2)) (tCons (tOp (rRepT K) (tTup (tCons (tTup (tCons (tC (.int 0)) (tCons (tC (.int 1)) (tCons (tC (.int 3)) tNil)))) tNil)) (tC (.int 121))) tNil))) (tCons (tC (.str "plan")) (tCons (tC (.int 7)) (tCons (tTup tNil) (tCons (tTup (tCons (tVar 5) (tCons (tVar 4) tNil))) (tCons (tTup (tCons (tC (.int 2)) (tCons (tTup (tCons (tTup (tCons (tC (.int 1)) (tCons (tC (.int 0)) (tCons (tC (.int 2)) tNil)))) (tCons (tTup (tCons (tC (.int 0)) (tCons (tC (.int 1)) (tCons (tC (.int 3)) tNil)))) tNil))) tNil))) tNil)))))))
def wrongD (n : Nat) : List PyData := [.tuple [.int 0, .int 0, .int 1], .tuple [.int 0, .int n, .int 1], .tuple [.int n, .int 0, .int 1], .tuple [.int 0, .int 1, .int (-1)], .tuple [.int 0, .int 1], .list [.int 0, .int 1, .int 2],
  .tuple [.int 0, .int 1, .none], .tuple [.int 0, .int 1, .bool true], .tuple [.bool true, .int 0, .int 2], .tuple [.int 0, .int 1, .int 2, .int 3], .none, .tuple [.int 0, .int 1, .str "1"]]
def oneD (n : Nat) (d : PyData) : PyData := .tuple [.int n, .tuple [d]]
def badA (n : Nat) (acts : List Acty) : List PyData := [.tuple [.int 0, .tuple []], .tuple [.int 21, .tuple []], .tuple [.bool true, .tuple []], .tuple [.str "2", .tuple []], .tuple [.int n, .list (acts.map eA)], .list [.int n, eAs acts], .tuple [.int n], .tuple [.int n, eAs acts, .tuple []], .none]
def badB : List PyData := [.tuple [.int 2, .tuple [.tuple [.int 0, .int 1, .int 0], .tuple [.int 1, .int 0, .int 0]]], .tuple [.int 3, .tuple [.tuple [.int 0, .int 1, .int 2], .tuple [.int 1, .int 2, .int 0], .tuple [.int 2, .int 0, .int 1]]],
  .tuple [.int 3, .tuple [.tuple [.int 0, .int 2, .int 2], .tuple [.int 0, .int 1, .int 3]]], .tuple [.int 2, .tuple [.tuple [.int 0, .int 1, .int 3], .tuple [.int 0, .int 1, .int 2]]]]
def badC (n : Nat) (acts : List Acty) : List PyData := [.tuple [.int 2, .tuple (List.replicate 121 (.tuple [.int 0, .int 1, .int 3]))], .str "plan", .int 7, .tuple [], .tuple [eAs acts, .int n], .tuple [.int 2, .tuple [.tuple [.int 1, .int 0, .int 2], .tuple [.int 0, .int 1, .int 3]]]]
def bads (n : Nat) (acts : List Acty) : List PyData := (((wrongD n).map (oneD n) ++ badA n acts) ++ badB) ++ badC n acts
section
variable {K : PySem.W.Frag} {b : Addr} {H0 : Hp} {σ : L2.St} {n : Nat} {acts : List Acty} {w : V} {ob : HO}
theorem mk_wrong (hb : H0 b = some ob) (h4 : σ[4]? = some (some (.int (n : Nat)))) : MkL K b H0 σ tb_w (wrongD n) := by
  unfold tb_w wrongD
  refine mkl hb ?_ (by simp)
  repeat' (first | exact mk_nil | refine mk_cons ?_ ?_ | exact mk_int | exact mk_non | exact mk_bl | exact mk_str | exact mk_neg | exact mk_var h4 (.int _) rfl | refine mk_tup hb ?_ (by simp) | refine mk_lst hb ?_ (by simp))
theorem mk_badA (hb : H0 b = some ob) (h4 : σ[4]? = some (some (.int (n : Nat)))) (h5 : σ[5]? = some (some w)) (hw : Dp K (del H0 b) w (eAs acts)) : MkL K b H0 σ (tb_a K) (badA n acts) := by
  unfold tb_a badA
  refine mkl hb ?_ (by simp)
  repeat' (first | exact mk_nil | refine mk_cons ?_ ?_ | exact mk_int | exact mk_non | exact mk_bl | exact mk_str | exact mk_neg | exact mk_var h4 (.int _) rfl | exact mk_var h5 hw rfl | exact mk_listOf hb h5 hw | refine mk_tup hb ?_ (by simp) | refine mk_lst hb ?_ (by simp))
theorem mk_badB (hb : H0 b = some ob) : MkL K b H0 σ tb_b badB := by
  unfold tb_b badB
  refine mkl hb ?_ (by simp)
  repeat' (first | exact mk_nil | refine mk_cons ?_ ?_ | exact mk_int | exact mk_non | exact mk_bl | exact mk_str | exact mk_neg | refine mk_tup hb ?_ (by simp) | refine mk_lst hb ?_ (by simp))
theorem mk_badC (hb : H0 b = some ob) (h4 : σ[4]? = some (some (.int (n : Nat)))) (h5 : σ[5]? = some (some w)) (hw : Dp K (del H0 b) w (eAs acts)) : MkL K b H0 σ (tb_c K) (badC n acts) := by
  unfold tb_c badC
  refine mkl hb ?_ (by simp)
  repeat' (first | exact mk_nil | refine mk_cons ?_ ?_ | exact mk_int | exact mk_non | exact mk_bl | exact mk_str | exact mk_neg | exact mk_var h4 (.int _) rfl | exact mk_var h5 hw rfl | refine mk_rep (k := 121) hb ?_ (by decide) (by decide) | refine mk_tup hb ?_ (by simp) | refine mk_lst hb ?_ (by simp))
end
theorem bads_len (n : Nat) (acts : List Acty) : (bads n acts).length = 31 := rfl
theorem bads_lst {n : Nat} {acts : List Acty} : ∀ d ∈ bads n acts, isLst d = true → d = .list [.int n, eAs acts] := by
  intro d hd hl
  simp only [bads, wrongD, badA, badB, badC, List.map_cons, List.map_nil, oneD, List.cons_append, List.nil_append, List.mem_cons, List.not_mem_nil, or_false] at hd
  repeat' (rcases hd with rfl | hd)
  all_goals first | rfl | (cases hl; done) | (subst hd; first | rfl | cases hl)
theorem small_A (m : Nat) (a : Acty) : Small (m + 2) (eA a) := ⟨by simp, fun x hx => by
  simp only [List.mem_cons, List.not_mem_nil, or_false] at hx
  rcases hx with rfl | rfl | rfl <;> exact trivial⟩
theorem small_l {m : Nat} {acts : List Acty} (h : acts.length ≤ 1000) : (acts.map eA).length ≤ 100000 ∧ ∀ x ∈ acts.map eA, Small (m + 2) x := ⟨by rw [List.length_map]; omega, fun x hx => by
  obtain ⟨a, _, rfl⟩ := List.mem_map.mp hx
  exact small_A m a⟩
theorem small_As {m : Nat} {acts : List Acty} (h : acts.length ≤ 1000) : Small (m + 3) (eAs acts) := small_l h
theorem small_tc {m : Nat} {ds : List PyData} (h : ds.length ≤ 100000) (g : ∀ x ∈ ds, Small m x) : Small (m + 1) (.tuple ds) := ⟨h, g⟩
theorem small_lc {m : Nat} {ds : List PyData} (h : ds.length ≤ 100000) (g : ∀ x ∈ ds, Small m x) : Small (m + 1) (.list ds) := ⟨h, g⟩
theorem bads_small {n : Nat} {acts : List Acty} (h : acts.length ≤ 1000) : ∀ d ∈ bads n acts, Small 6 d := by
  intro d hd
  have hA : Small 5 (eAs acts) := small_As h
  have hL : Small 5 (.list (acts.map eA)) := small_l h
  have c1 : ("1" : Str).length ≤ 1000 := by decide
  have c2 : ("2" : Str).length ≤ 1000 := by decide
  have c3 : ("plan" : Str).length ≤ 1000 := by decide
  simp only [bads, wrongD, badA, badB, badC, List.map_cons, List.map_nil, oneD, List.cons_append, List.nil_append, List.mem_cons, List.not_mem_nil, or_false] at hd
  repeat' (rcases hd with rfl | hd)
  all_goals first | exact trivial | (simp [Small, hA, hL, c1, c2, c3]; done) | (subst hd; simp [Small, hA, hL, c1, c2, c3]; done) | exact small_tc (by simp) (fun x hx => by simp only [List.mem_cons, List.not_mem_nil, or_false] at hx; rcases hx with rfl | rfl; exact trivial; exact hL)
theorem notplan_one {n : Nat} {w : PyData} (h : isAct n w = false) : ¬ IsPlan (oneD n w) := by
  rintro ⟨m, l, e, hv⟩
  injection e with e
  injection e with e1 e2
  injection e1 with e1
  injection e2 with e2 _
  injection e2 with e2
  have hm : n = m := by omega
  subst hm
  have := acts_all hv.good.ev
  rw [← e2, List.all_cons, h] at this
  cases this
theorem notplan_acts {n : Nat} {l : List Acty} (h : ¬ Valid n l) : ¬ IsPlan (eP n l) := by
  rintro ⟨m, k, e, hv⟩
  obtain ⟨e1, e2⟩ := eP_inj e
  rw [← e1, ← e2] at hv
  exact h hv
theorem wrong_not (n : Nat) : ∀ w ∈ wrongD n, isAct n w = false := by
  intro w hw
  simp only [wrongD, List.mem_cons, List.not_mem_nil, or_false] at hw
  rcases hw with rfl | rfl | rfl | rfl | rfl | rfl | rfl | rfl | rfl | rfl | rfl | rfl <;> simp [isAct, isIndex, isCount]
theorem bads_not {n : Nat} {acts : List Acty} : ∀ d ∈ bads n acts, ¬ IsPlan d := by
  intro d hd
  simp only [bads, List.mem_append] at hd
  rcases hd with ((hd | hd) | hd) | hd
  · obtain ⟨w, hw, rfl⟩ := List.mem_map.mp hd
    exact notplan_one (wrong_not n w hw)
  · simp only [badA, List.mem_cons, List.not_mem_nil, or_false] at hd
    rcases hd with rfl | rfl | rfl | rfl | rfl | rfl | rfl | rfl | rfl <;> rintro ⟨m, l, e, hv⟩ <;> simp [eP, eAs] at e
    · have := hv.n1; omega
    · have := hv.good.n20; omega
  · simp only [badB, List.mem_cons, List.not_mem_nil, or_false] at hd
    rcases hd with rfl | rfl | rfl | rfl
    · refine notplan_acts (n := 2) (l := [(0, 1, 0), (1, 0, 0)]) fun hv => ?_
      obtain ⟨r, hr⟩ := hv.rank
      have h1 := hr 0 1 0 (by simp)
      have h2 := hr 1 0 0 (by simp)
      omega
    · refine notplan_acts (n := 3) (l := [(0, 1, 2), (1, 2, 0), (2, 0, 1)]) fun hv => ?_
      obtain ⟨r, hr⟩ := hv.rank
      have h1 := hr 0 1 2 (by simp)
      have h2 := hr 1 2 0 (by simp)
      have h3 := hr 2 0 1 (by simp)
      omega
    · refine notplan_acts (n := 3) (l := [(0, 2, 2), (0, 1, 3)]) fun hv => ?_
      have := hv.ord
      revert this; decide
    · refine notplan_acts (n := 2) (l := [(0, 1, 3), (0, 1, 2)]) fun hv => ?_
      have := hv.ord
      revert this; decide
  · simp only [badC, List.mem_cons, List.not_mem_nil, or_false] at hd
    rcases hd with rfl | rfl | rfl | rfl | rfl | rfl
    · have e : (PyData.tuple [.int 2, .tuple (List.replicate 121 (.tuple [.int 0, .int 1, .int 3]))]) = eP 2 (List.replicate 121 (0, 1, 3)) := by simp [eP, eAs, eA]
      rw [e]
      refine notplan_acts fun hv => ?_
      have := hv.good.most
      rw [List.length_replicate] at this
      omega
    · rintro ⟨m, l, e, hv⟩; cases e
    · rintro ⟨m, l, e, hv⟩; cases e
    · rintro ⟨m, l, e, hv⟩; cases e
    · rintro ⟨m, l, e, hv⟩; simp [eP, eAs] at e
    · refine notplan_acts (n := 2) (l := [(1, 0, 2), (0, 1, 3)]) fun hv => ?_
      have := hv.ord
      revert this; decide
section
variable {K : PySem.W.Frag} {mg : Str → Option Value} (T : TX K mg) {vs : List V} {H : Hp} {Q : VK} {E : XK}

theorem bad_short : t_law_bad_plan T = (tSeq (tAsg (tVar 1) (gTup K 2 (gCons (gName 4) (gCons (gName 5) gNil))))
  (tSeq (tAsg tb_w (gName 2))
  (tSeq (tAsg (tOp rCat (tLc (iList K (tVar 2)) (gName 6) tYes (tTup (tCons (tVar 4) (tCons (tTup (tCons (tVar 6) tNil)) tNil))) [6]) (tb_a K)) (gName 3))
  (tSeq (tAsg (tOp rCat (tVar 3) tb_b) (gName 3))
  (tSeq (tAsg (tOp rCat (tVar 3) (tb_c K)) (gName 3))
  (tRet (tOp (rIxL K) (tVar 3) (tCall (sp_law_take T) [] E0 (tCons (tVar 0) (tCons (tCB (rLenSeq K) (tCons (tVar 3) tNil)) tNil)))))))))) := rfl
theorem rd_law_bad_plan (h : sp_law_bad_plan T vs H Q E) : t_law_bad_plan T (rtE Q) (start N_law_bad_plan vs) H := by
  rw [bad_short]; walk_at "n"
  obtain ⟨b, v, n, acts, k, rfl, hd, hv, hb, hk, q⟩ := h
  obtain ⟨pp, w, rfl, hp, hw⟩ := eP_inv hd
  have hm := hv.good.most
  refine ⟨_, rfl, pp, _, rfl, hp, rfl, _, _, rfl, _, _, rfl, rfl, ?_⟩
  obtain ⟨bxs, ebx⟩ := hb.lst
  have hwb : Dp K (del H b) w (eAs acts) := hw.keep (keep_del ebx) (flat_acts _)
  refine mk_wrong (K := K) (H0 := H) (n := n) ebx rfl H (Same.refl _) _ fun H1 W ws s1 nW eW dW => ?_
  refine lc_def ⟨_, rfl, W, rfl, ⟨_, .of eW⟩, fun D nD => ?_⟩
  have dWs := dW.dp
  have hlw : ws.length = 12 := dW.length
  refine lc_it (walk_list (K := K) (a := W) (xs := ws)) (fun i H' => Same H1 H' ∧ ∃ xs, H' D = some (.lst xs) ∧ DpAll K (del (del H' D) b) xs (((wrongD n).take i).map (oneD n)) ∧ xs.length = i)
    ⟨same_upd nD, [], upd_same, .nil, rfl⟩ (fun i H' _ p => .of (p.1 _ _ eW)) ?_ (fun H' p => ?_)
  · rintro i x H2 H3 hi ⟨s2, xs, hx, hdx, hlx⟩ ⟨rfl, ex⟩
    obtain ⟨dx, e1, hxd⟩ := dWs.getV ex
    walk_at "n"
    refine ⟨rfl, iteT ⟨_, rfl, _, rfl, by show 1 ≤ sizeLine; decide, fun u1 n1 => ⟨by show 2 ≤ sizeLine; decide, fun u2 n2 => ?_⟩⟩⟩
    have sa := same_upd (o := .tup [x]) n1
    have sb := same_upd (o := .tup [.int (n : Nat), .ref u1]) n2
    have hx4 := sb _ _ (sa _ _ hx)
    have u1D : u1 ≠ D := fun z => by rw [z, hx] at n1; cases n1
    have u2D : u2 ≠ D := fun z => by rw [z, sa _ _ hx] at n2; cases n2
    refine ⟨xs, hx4, small_line (by omega), ((s2.trans sa).trans sb).set nD, xs ++ [.ref u2], upd_same, ?_, by simp [hlx]⟩
    rw [del_upd]
    have htk : (wrongD n).take (i + 1) = (wrongD n).take i ++ [dx] := by
      obtain ⟨a1, a2⟩ := List.getElem?_eq_some_iff.mp e1
      rw [List.take_succ_eq_append_getElem a1, a2]
    rw [htk, List.map_append]
    refine (hdx.same (del_mono (del_mono (sa.trans sb)))).append (.cons ?_ .nil)
    have u1b := ne_b ebx (s1.trans s2) n1
    have u2b := ne_b ebx ((s1.trans s2).trans sa) n2
    have hxD : Dp K (del (del H3 D) b) x dx := hxd.same (del_mono (same_del s2 nD))
    refine .tup (.of (by rw [del_ne u2b, del_ne u2D]; exact upd_same)) (.cons (.int _) (.cons (.tup (.of (by rw [del_ne u1b, del_ne u1D]; exact sb _ _ upd_same)) (.cons ?_ .nil)) .nil))
    exact hxD.same (del_mono (del_mono (sa.trans sb)))
  obtain ⟨s2, xs, hx, hdx, hlx⟩ := p
  have s02 := s1.trans s2
  refine mk_badA (K := K) (H0 := H) (n := n) (acts := acts) ebx rfl rfl hwb H' s02 _ fun H3 A as s3 nA eA' dA => ?_
  have hla : as.length = 9 := dA.length
  refine ⟨D, A, _, _, rfl, rfl, s3 _ _ hx, eA', Nat.le_of_lt (small_line (by omega)), fun F nF => ?_⟩
  have sF := same_upd (o := .lst (xs ++ as)) nF
  have m1 : MVs K b H (upd H3 F (.lst (xs ++ as))) (xs ++ as) ((wrongD n).map (oneD n) ++ badA n acts) := by
    refine MVs.append (MVs.nolist ?_ ?_) (dA.same sF)
    · have : (wrongD n).take ws.length = wrongD n := by rw [hlw]; rfl
      rw [this] at hdx
      exact ((hdx.same (del_mono del_sub)).same (del_mono s3)).same (del_mono sF)
    · intro d hd
      obtain ⟨_, _, rfl⟩ := List.mem_map.mp hd
      rfl
  have s03 := (s02.trans s3).trans sF
  refine ⟨_, rfl, mk_badB (K := K) (H0 := H) ebx _ s03 _ fun H4 B bs s4 nB eB dB => ?_⟩
  have hlb : bs.length = 4 := dB.length
  refine ⟨F, B, _, _, rfl, rfl, s4 _ _ upd_same, eB, Nat.le_of_lt (small_line (by rw [List.length_append]; omega)), fun G nG => ?_⟩
  have sG := same_upd (o := .lst (xs ++ as ++ bs)) nG
  have m2 := MVs.append ((m1.same s4).same sG) (dB.same sG)
  have s04 := (s03.trans s4).trans sG
  refine ⟨_, rfl, mk_badC (K := K) (H0 := H) (n := n) (acts := acts) ebx rfl rfl hwb _ s04 _ fun H5 C cs s5 nC eC dC => ?_⟩
  have hlc : cs.length = 6 := dC.length
  refine ⟨G, C, _, _, rfl, rfl, s5 _ _ upd_same, eC, Nat.le_of_lt (small_line (by rw [List.length_append, List.length_append]; omega)), fun J nJ => ?_⟩
  have sJ := same_upd (o := .lst (xs ++ as ++ bs ++ cs)) nJ
  have m3 : MVs K b H _ _ (bads n acts) := MVs.append ((m2.same s5).same sJ) (dC.same sJ)
  have s05 := (s04.trans s5).trans sJ
  refine ⟨_, rfl, _, rfl, _, rfl, J, _, rfl, .inl (.of upd_same), ?_⟩
  refine ⟨b, 31, k, by rw [m3.length]; rfl, hb.same s05, hk, by omega, by omega, fun H6 r s6 b6 hr => ?_⟩
  have hr' : r < (bads n acts).length := hr
  obtain ⟨y, ey, dy⟩ := m3.get (List.getElem?_eq_getElem hr')
  have hJb := (hb.same (s04.trans s5)).ne nJ
  refine ⟨J, _, _, y, rfl, rfl, .of (s6 _ _ hJb upd_same), atI_nat ey, ?_⟩
  have hmem : (bads n acts)[r] ∈ bads n acts := List.getElem_mem hr'
  have kt : KeepT _ H6 := (hb.same s05).keep s6
  generalize hdd : (bads n acts)[r] = d at *
  have sd6 := but_del s6
  have s06 : But b H H6 := (But.of s05).trans s6
  cases hl : isLst d with
  | true =>
    have ed := bads_lst d hmem hl
    obtain ⟨a, zs, ds, rfl, e2, na, ea, da⟩ := dy.2 hl
    rw [ed] at e2
    injection e2 with e2
    rw [← e2] at da
    have fl : flatAll [PyData.int n, eAs acts] = true := by simp [flatAll, flatD, flat_acts]
    have hab := hb.ne na
    have ea6 := s6 _ _ hab ea
    have da6 := (da.same (del_mono del_sub)).same sd6
    have hlz : zs.length = 2 := da.length
    refine q H6 _ d s06 ?_ (bads_not d hmem) (bads_small (by omega) d hmem) (fun _ => ⟨a, zs, _, rfl, ed, na, ea6, by omega, (fun s u z => by rw [z] at da6; cases da6 with | cons h _ => cases h), fun H2 o s2 => ?_⟩) b6
    · rw [ed]; exact .lst (.of ea6) da6
    · exact (da6.same s2).keep (KeepT.upd (s2 _ _ ea6)) fl
  | false =>
    exact q H6 _ d s06 (dy.1.same sd6) (bads_not d hmem) (bads_small (by omega) d hmem) (fun z => by rw [hl] at z; cases z) b6
end
end A69
end

section
set_option maxRecDepth 100000
set_option maxHeartbeats 2000000
/-! LRp: what the law compares. -/
namespace A69
open PySem PySem.Spec PyProof.Rows L2 KX MP
local macro_rules | `(tactic| walk_at "n") => `(tactic| dsimp only [rtE, tRet, tAndV, tOrV, tNotV, tCB, tCons, tNil, tVar, tC, tOp, tUn, tChain, tTest, tB, tAnd, tOr, tNot, tIf, tIfS, tSeq, tAsg, tDrop, tNext, gName, tPar, tPar3, tTup, tLst, tCall, tBM, tBM0, tSl, tPart, tNoPart, gTup, gCons, gNil, gSub, iRng1, iRng2, iList, iTup, iEnumT, iRgV, tYes, tLstRg, tRg1])

theorem sub_lenA : ∀ (l m : List Acty), l.Nodup → (∀ x ∈ l, x ∈ m) → l.length ≤ m.length
  | [], _, _, _ => Nat.zero_le _
  | a :: l, m, hn, h => by
    rw [List.nodup_cons] at hn
    have ha := h a List.mem_cons_self
    have := sub_lenA l (m.erase a) hn.2 fun x hx => by
      have hx' := h x (List.mem_cons_of_mem _ hx)
      have hne : x ≠ a := fun z => hn.1 (z ▸ hx)
      exact (List.mem_erase_of_ne hne).mpr hx'
    have h2 := List.length_erase_of_mem ha
    have h3 : 0 < m.length := List.length_pos_of_mem ha
    rw [List.length_cons]; omega
theorem red_nodup (n : Nat) (rows : List (List (Option Int))) : (redR n rows).Nodup := by
  have h : ((pairsR n rows).filter (tight n rows)).Pairwise lexP := (pairsR_lex n rows).sublist List.filter_sublist
  unfold redR List.Nodup
  rw [List.pairwise_map]
  refine h.imp fun {p q} hl e => ?_
  have e1 : p.1 = q.1 := congrArg (fun x : Acty => x.1) e
  have e2 : p.2 = q.2 := congrArg (fun x : Acty => x.2.1) e
  rcases hl with z | ⟨_, z⟩ <;> omega
theorem way_nonneg {acts : List Acty} (h : ∀ a b d, (a, b, d) ∈ acts → 0 ≤ d) {a b : Nat} {l : Int} (w : Way acts a b l) : 0 ≤ l := by
  induction w with
  | nil => exact Int.le_refl 0
  | snoc _ hm ih => have := h _ _ _ hm; omega
theorem valid_red {n : Nat} {acts : List Acty} {rows : List (List (Option Int))} (hv : Valid n acts) (ht : IsTab n acts rows) : Valid n (redR n rows) := by
  obtain ⟨r, hr⟩ := hv.rank
  have hb : ∀ a b d, (a, b, d) ∈ acts → a < n ∧ b < n := fun a b d hm => ⟨(hv.good.ev a b d hm).1, (hv.good.ev a b d hm).2.1⟩
  have sub : ∀ x ∈ redR n rows, x ∈ acts := fun ⟨a, b, d⟩ hx => ht.red_mem hr hb hx
  have g : GoodA n (redR n rows) := hv.good.sub sub (sub_lenA _ _ (red_nodup n rows) sub)
  have := valid_sort hv.n1 g ⟨r, ht.rankR hr⟩
  rw [redR, sort_self _ List.filter_sublist] at this
  exact this
theorem valid_clos {n : Nat} {acts : List Acty} {rows : List (List (Option Int))} (hv : Valid n acts) (ht : IsTab n acts rows) (hl : (closR n rows).length ≤ 120) : Valid n (closR n rows) := by
  obtain ⟨r, hr⟩ := hv.rank
  have g : GoodA n (closR n rows) := ⟨hv.good.n20, hl, fun a b d hm => by
    obtain ⟨h1, h2, h3, h4⟩ := mem_closR.mp hm
    exact ⟨h1, h2, h3, way_nonneg (fun a b d hm => (hv.good.ev a b d hm).2.2.2) ((ht.at_ a b h1 h2).way d h4)⟩⟩
  have := valid_sort hv.n1 g ⟨r, ht.rankC hr⟩
  rw [closR, sort_self _ (List.Sublist.refl _)] at this
  exact this
theorem eqv_A (a b : Acty) : PyData.eqv (eA a) (eA b) = decide (a = b) := by
  have h := eqv_all eqv_int [(a.1 : Int), (a.2.1 : Int), a.2.2] [(b.1 : Int), (b.2.1 : Int), b.2.2]
  show PyData.eqv (.tuple ([(a.1 : Int), (a.2.1 : Int), a.2.2].map PyData.int)) (.tuple ([(b.1 : Int), (b.2.1 : Int), b.2.2].map PyData.int)) = _
  simp only [PyData.eqv]
  rw [h]
  obtain ⟨a1, a2, a3⟩ := a
  obtain ⟨b1, b2, b3⟩ := b
  by_cases z : (a1, a2, a3) = (b1, b2, b3)
  · cases z; simp
  · rw [decide_eq_false z]
    apply decide_eq_false
    intro e
    simp only [List.cons.injEq] at e
    apply z
    simp only [Prod.mk.injEq]
    omega
def eRowL (r : List (Option Int)) : PyData := .list (r.map eO)
theorem sh_rowL (r : List (Option Int)) : Sh 1 (eRowL r) := sh_list sh_o r
theorem eqv_rowL (r1 r2 : List (Option Int)) : PyData.eqv (eRowL r1) (eRowL r2) = decide (r1 = r2) := by
  have := eqv_all eqv_o r1 r2
  show PyData.eqv (.list (r1.map eO)) (.list (r2.map eO)) = _
  simp only [PyData.eqv]
  exact this
theorem eqv_TL (r1 r2 : List (List (Option Int))) : PyData.eqv (.list (r1.map eRowL)) (.list (r2.map eRowL)) = decide (r1 = r2) := by
  have := eqv_all eqv_rowL r1 r2
  simp only [PyData.eqv]
  exact this
theorem HRows.dp {K : PySem.W.Frag} {H : Hp} {p : Addr} {ps : List Addr} {rows : List (List (Option Int))} (h : HRows H p ps rows) : Dp K H (.ref p) (.list (rows.map eRowL)) := by
  refine .lst (.of h.at_) ?_
  have key : ∀ (qs : List Addr) (rs : List (List (Option Int))), qs.length = rs.length → (∀ (i : Nat) (q : Addr), qs[i]? = some q → ∀ r : List (Option Int), rs[i]? = some r → H q = some (.lst (r.map vO))) → DpAll K H (qs.map V.ref) (rs.map eRowL) := by
    intro qs
    induction qs with
    | nil => intro rs hl _; cases rs with | nil => exact .nil | cons _ _ => simp at hl
    | cons q qs ih =>
      intro rs hl hr
      cases rs with
      | nil => simp at hl
      | cons r rs => exact .cons (.lst (.of (hr 0 q rfl r rfl)) DpAll.os) (ih rs (by simpa using hl) fun i q e r er => hr (i + 1) q (by simpa using e) r (by simpa using er))
  exact key ps rows h.len h.row
theorem eq_rows {K : PySem.W.Frag} {H : Hp} {p p2 : Addr} {ps ps2 : List Addr} {rows rows2 : List (List (Option Int))} {Q : VK} (h : HRows H p ps rows) (h2 : HRows H p2 ps2 rows2) (q : Q (.bl (decide (rows = rows2))) H) : rEqD K (.ref p) (.ref p2) H Q :=
  ⟨_, _, h.dp, h2.dp, (sh_list sh_rowL rows).shaped (by decide), (sh_list sh_rowL rows2).shaped (by decide), by rw [eqv_TL]; exact q⟩
theorem ne_rows {K : PySem.W.Frag} {H : Hp} {p p2 : Addr} {ps ps2 : List Addr} {rows rows2 : List (List (Option Int))} {Q : VK} (h : HRows H p ps rows) (h2 : HRows H p2 ps2 rows2) (q : Q (.bl (!decide (rows = rows2))) H) : rNeD K (.ref p) (.ref p2) H Q :=
  ⟨_, _, h.dp, h2.dp, (sh_list sh_rowL rows).shaped (by decide), (sh_list sh_rowL rows2).shaped (by decide), by rw [eqv_TL]; exact q⟩
theorem ne_nilI {K : PySem.W.Frag} {H : Hp} {q o : Addr} {Q : VK} (hq : SqL K H q []) (ho : SqL K H o []) (h : Q (.bl false) H) : rNeD K (.ref q) (.ref o) H Q :=
  ⟨_, _, .lst hq .nil, .lst ho .nil, rfl, rfl, h⟩
theorem small_P {n : Nat} {acts : List Acty} (h : acts.length ≤ 1000) : Small 6 (eP n acts) :=
  small_tc (by simp) fun x hx => by
    simp only [List.mem_cons, List.not_mem_nil, or_false] at hx
    rcases hx with rfl | rfl
    · exact trivial
    · exact small_As h
section
variable {K : PySem.W.Frag} {mg : Str → Option Value} (T : TX K mg) {vs : List V} {H : Hp} {Q : VK} {E : XK}

theorem ask_red {a : Addr} {v : V} {n : Nat} {acts : List Acty} {rows : List (List (Option Int))} {turn : Int} (hs : SqL K H a [v]) (hd : Dp K H v (eP n acts)) (hv : Valid n acts) (ht : IsTab n acts rows)
    (q : Tells H Q "told" fun u H' => Dp K H' u (eP n (redR n rows))) : sp_law_asked T [.int 1, .ref a, .int turn] H Q E := by
  refine ⟨1, turn, a, [v], v, eP n acts, rfl, hs, rfl, hd, fun z => absurd ⟨n, acts, rfl, hv⟩ z, .inr (.inl ⟨rfl, fun n' acts' e hv' rows' ht' => ?_⟩)⟩
  obtain ⟨e1, e2⟩ := eP_inj e
  subst e1 e2
  cases ht.uniq ht'
  exact q
theorem ask_clos {a : Addr} {v : V} {n : Nat} {acts : List Acty} {rows : List (List (Option Int))} {turn : Int} (hs : SqL K H a [v]) (hd : Dp K H v (eP n acts)) (hv : Valid n acts) (ht : IsTab n acts rows)
    (q1 : (closR n rows).length ≤ 120 → Tells H Q "told" fun u H' => Dp K H' u (eP n (closR n rows))) (q2 : 120 < (closR n rows).length → Tells H Q "many" fun u _ => u = .int (closR n rows).length) : sp_law_asked T [.int 0, .ref a, .int turn] H Q E := by
  refine ⟨0, turn, a, [v], v, eP n acts, rfl, hs, rfl, hd, fun z => absurd ⟨n, acts, rfl, hv⟩ z, .inl ⟨rfl, fun n' acts' e hv' rows' ht' => ?_⟩⟩
  obtain ⟨e1, e2⟩ := eP_inj e
  subst e1 e2
  cases ht.uniq ht'
  exact ⟨q1, q2⟩
theorem ask_spare {a : Addr} {v : V} {n k : Nat} {acts : List Acty} {r1 r2 : List (List (Option Int))} {turn : Int} (hs : SqL K H a [v, .int k]) (hd : Dp K H v (eP n acts)) (hv : Valid n acts) (hk : k < acts.length) (t1 : IsTab n (acts.eraseIdx k) r1) (t2 : IsTab n acts r2)
    (q : Tells H Q "told" fun u _ => u = .bl (decide (r1 = r2))) : sp_law_asked T [.int 2, .ref a, .int turn] H Q E := by
  refine ⟨2, turn, a, _, v, eP n acts, rfl, hs, rfl, hd, fun z => absurd ⟨n, acts, rfl, hv⟩ z, .inr (.inr ⟨rfl, .int k, .int k, rfl, .int _, fun n' acts' e hv' => ⟨fun k' ek hk' r1' r2' t1' t2' => ?_, fun z => ?_⟩⟩)⟩
  · obtain ⟨e1, e2⟩ := eP_inj e
    subst e1 e2
    have : k = k' := by injection ek with ek; omega
    subst this
    cases t1.uniq t1'
    cases t2.uniq t2'
    exact q
  · obtain ⟨e1, e2⟩ := eP_inj e
    subst e1 e2
    simp [isIndex] at z
    omega
theorem same_word {p p2 : Addr} {u w : V} {d : PyData} {x : Str} (h1 : H p = some (.lst [.str x, u])) (h2 : H p2 = some (.lst [.str x, w])) (d1 : Dp K H u d) (d2 : Dp K H w d) (hx : x.length ≤ 1000) (hs : Small 6 d) (q : ∀ H', Same H H' → Q (.bl true) H') : sp_same T 7 [.ref p, .ref p2] H Q E :=
  ⟨_, _, .list [.str x, d], rfl, .lst (.of h1) (.cons (.str _) (.cons d1 .nil)), .lst (.of h2) (.cons (.str _) (.cons d2 .nil)), small_lc (by simp) (fun y hy => by
    simp only [List.mem_cons, List.not_mem_nil, or_false] at hy
    rcases hy with rfl | rfl
    · exact hx
    · exact hs), q⟩
end
end A69
end

section
set_option maxRecDepth 100000
set_option maxHeartbeats 2000000
/-! LRq: readings of the law: plans are right. -/
namespace A69
open PySem PySem.Spec PyProof.Rows L2 KX MP
local macro_rules | `(tactic| walk_at "n") => `(tactic| dsimp only [rtE, tRet, tAndV, tOrV, tNotV, tCB, tCons, tNil, tVar, tC, tOp, tUn, tChain, tTest, tB, tAnd, tOr, tNot, tIf, tIfS, tSeq, tAsg, tDrop, tNext, gName, tPar, tPar3, tTup, tLst, tCall, tBM, tBM0, tSl, tPart, tNoPart, gTup, gCons, gNil, gSub, iRng1, iRng2, iList, iTup, iEnumT, iRgV, tYes, tLstRg, tRg1])

abbrev tAsk {mg : Str → Option Value} {K : PySem.W.Frag} (T : TX K mg) (which t : TE) (i : Nat) : TE := tCall (sp_law_asked T) [] E0 (tCons which (tCons (tLst (tCons (tVar i) tNil)) (tCons t tNil)))
abbrev tTold (j : Nat) : TE := tLst (tCons (tC (.str "told")) (tCons (tVar j) tNil))
/-- what stands on the heap -/
structure PRt (K : PySem.W.Frag) (H' : Hp) (n m : Nat) (acts bcts : List Acty) (rows : List (List (Option Int))) (v w wh sm : V) (p q du : Addr) (ps : List Addr) : Prop where
  plan : Dp K H' v (eP n acts)
  other : Dp K H' w (eP m bcts)
  tab : HRows H' p ps rows
  small : Dp K H' sm (eP n (redR n rows))
  whole : Dp K H' wh (eP n (closR n rows))
  pairs : ∃ xs, H' q = some (.lst xs) ∧ xs.length = (closR n rows).length
  due : H' du = some (.lst (if (closR n rows).length ≤ 120 then [.str "told", wh] else [.str "many", .int (closR n rows).length]))
section
variable {K : PySem.W.Frag} {H H2 : Hp} {n m : Nat} {acts bcts : List Acty} {rows : List (List (Option Int))} {v w wh sm : V} {p q du b : Addr} {ps : List Addr}
theorem PRt.same (h : PRt K H n m acts bcts rows v w wh sm p q du ps) (s : Same H H2) : PRt K H2 n m acts bcts rows v w wh sm p q du ps := by
  obtain ⟨xs, e1, e2⟩ := h.pairs
  exact ⟨h.plan.same s, h.other.same s, h.tab.same s, h.small.same s, h.whole.same s, ⟨xs, s _ _ e1, e2⟩, s _ _ h.due⟩
theorem PRt.but (h : PRt K H n m acts bcts rows v w wh sm p q du ps) (s : But b H H2) (kt : KeepT H H2) (n1 : p ≠ b) (n2 : ∀ x ∈ ps, x ≠ b) (n3 : q ≠ b) (n4 : du ≠ b) : PRt K H2 n m acts bcts rows v w wh sm p q du ps := by
  obtain ⟨xs, e1, e2⟩ := h.pairs
  exact ⟨h.plan.keep kt (flat_eP _ _), h.other.keep kt (flat_eP _ _), h.tab.but s n1 n2, h.small.keep kt (flat_eP _ _), h.whole.keep kt (flat_eP _ _), ⟨xs, s _ _ n3 e1, e2⟩, s _ _ n4 h.due⟩
end
section
variable {K : PySem.W.Frag} {mg : Str → Option Value} (T : TX K mg) {vs : List V} {H : Hp} {Q : VK} {E : XK}

theorem chk_red {σ : L2.St} {H' : Hp} {v s : V} {i j : Nat} {t : TE} {x : Int} {n : Nat} {acts : List Acty} {rows : List (List (Option Int))} (hi : σ[i]? = some (some v)) (hj : σ[j]? = some (some s)) (ht : ∀ (H : Hp) (Q : VK), Q (.int x) H → t σ H Q)
    (hd : Dp K H' v (eP n acts)) (hv : Valid n acts) (hT : IsTab n acts rows) (hs : Dp K H' s (eP n (redR n rows))) (q : ∀ H2, Same H' H2 → Q (.bl true) H2) : tCall (sp_same T 7) [] E0 (tCons (tAsk T (tC (.int 1)) t i) (tCons (tTold j) tNil)) σ H' Q := by
  walk_at "n"
  refine ⟨_, hi, by show 1 ≤ sizeLine; decide, fun a na => ht _ _ ?_⟩
  have sa := same_upd (o := .lst [v]) na
  refine ask_red T (E := E0) (.of upd_same) (hd.same sa) hv hT fun H3 p3 u s3 e3 d3 => ?_
  refine ⟨_, hj, by show 2 ≤ sizeLine; decide, fun g ng => ?_⟩
  have sg := same_upd (o := .lst [.str "told", s]) ng
  have hlr : (redR n rows).length ≤ 1000 := by have := (valid_red hv hT).good.most; omega
  refine same_word T (E := E0) (sg _ _ e3) upd_same (d3.same sg) (((hs.same sa).same s3).same sg) (by decide) (small_P hlr) fun H4 s4 => q H4 (((sa.trans s3).trans sg).trans s4)
theorem chk_clos {σ : L2.St} {H' : Hp} {v s : V} {i j : Nat} {t : TE} {x : Int} {n : Nat} {acts : List Acty} {rows : List (List (Option Int))} (hi : σ[i]? = some (some v)) (hj : σ[j]? = some (some s)) (ht : ∀ (H : Hp) (Q : VK), Q (.int x) H → t σ H Q)
    (hd : Dp K H' v (eP n acts)) (hv : Valid n acts) (hT : IsTab n acts rows) (hl : (closR n rows).length ≤ 120) (hs : Dp K H' s (eP n (closR n rows))) (q : ∀ H2, Same H' H2 → Q (.bl true) H2) : tCall (sp_same T 7) [] E0 (tCons (tAsk T (tC (.int 0)) t i) (tCons (tTold j) tNil)) σ H' Q := by
  walk_at "n"
  refine ⟨_, hi, by show 1 ≤ sizeLine; decide, fun a na => ht _ _ ?_⟩
  have sa := same_upd (o := .lst [v]) na
  refine ask_clos T (E := E0) (.of upd_same) (hd.same sa) hv hT (fun _ H3 p3 u s3 e3 d3 => ?_) (fun z => by omega)
  refine ⟨_, hj, by show 2 ≤ sizeLine; decide, fun g ng => ?_⟩
  have sg := same_upd (o := .lst [.str "told", s]) ng
  refine same_word T (E := E0) (sg _ _ e3) upd_same (d3.same sg) (((hs.same sa).same s3).same sg) (by decide) (small_P (by omega)) fun H4 s4 => q H4 (((sa.trans s3).trans sg).trans s4)
def t_pr_tail3 {mg : Str → Option Value} {K : PySem.W.Frag} (T : TX K mg) : TS := (tSeq (tIfS (tOr (tNot (tB (tCall (sp_same T 7) [] E0 (tCons (tCall (sp_law_asked T) [] E0 (tCons (tC (.int 1)) (tCons (tLst (tCons (tVar 2) tNil)) (tCons (tVar 3) tNil)))) (tCons (tLst (tCons (tC (.str "told")) (tCons (tCall (sp_law_reduced T) [] E0 (tCons (tVar 2) tNil)) tNil))) tNil))))) (tNot (tB (tCall (sp_same T 7) [] E0 (tCons (tCall (sp_law_asked T) [] E0 (tCons (tC (.int 1)) (tCons (tLst (tCons (tVar 1) tNil)) (tCons (tOp rSubI (tC (.int 1)) (tVar 3)) tNil)))) (tCons (tLst (tCons (tC (.str "told")) (tCons (tVar 9) tNil))) tNil)))))) (tRet (tC (.bl false))) tNext)
  (tSeq (tIfS (tTest (tOp rLeI (tCB (rLenSeq K) (tCons (tVar 8) tNil)) (tC (.int 120)))) (tSeq (tIfS (tOr (tNot (tB (tCall (sp_same T 7) [] E0 (tCons (tCall (sp_law_asked T) [] E0 (tCons (tC (.int 0)) (tCons (tLst (tCons (tVar 5) tNil)) (tCons (tVar 3) tNil)))) (tCons (tLst (tCons (tC (.str "told")) (tCons (tVar 5) tNil))) tNil))))) (tNot (tB (tCall (sp_same T 7) [] E0 (tCons (tCall (sp_law_asked T) [] E0 (tCons (tC (.int 1)) (tCons (tLst (tCons (tVar 5) tNil)) (tCons (tVar 3) tNil)))) (tCons (tLst (tCons (tC (.str "told")) (tCons (tVar 9) tNil))) tNil)))))) (tRet (tC (.bl false))) tNext)
  (tIfS (tNot (tB (tCall (sp_same T 7) [] E0 (tCons (tCall (sp_law_asked T) [] E0 (tCons (tC (.int 0)) (tCons (tLst (tCons (tVar 9) tNil)) (tCons (tVar 3) tNil)))) (tCons (tLst (tCons (tC (.str "told")) (tCons (tVar 5) tNil))) tNil))))) (tRet (tC (.bl false))) tNext)) tNext)
  (tRet (tCall (sp_same T 7) [] E0 (tCons (tCall (sp_law_asked T) [] E0 (tCons (tC (.int 1)) (tCons (tLst (tCons (tVar 9) tNil)) (tCons (tOp rSubI (tC (.int 1)) (tVar 3)) tNil)))) (tCons (tLst (tCons (tC (.str "told")) (tCons (tVar 9) tNil))) tNil))))))
def t_pr_tail2 {mg : Str → Option Value} {K : PySem.W.Frag} (T : TX K mg) : TS := (tSeq (tIfS (tOr (tTest (tOp (rNeD K) (tCall (sp_law_times T) [] E0 (tCons (tOp (rIxT K) (tVar 9) (tC (.int 0))) (tCons (tOp (rIxT K) (tVar 9) (tC (.int 1))) tNil))) (tVar 4))) (tTest (tOp (rNeD K) (tLc (iTup K (tOp (rIxT K) (tVar 9) (tC (.int 1)))) (gName 10) (tTest (tOp (rNotInDT K) (tVar 10) (tOp (rIxT K) (tVar 1) (tC (.int 1))))) (tVar 10) [10]) (tLst tNil)))) (tRet (tC (.bl false))) tNext)
  (t_pr_tail3 T))
def t_pr_tail {mg : Str → Option Value} {K : PySem.W.Frag} (T : TX K mg) : TS := (tSeq (tFor (iList K (tCall (sp_law_mixed T) [] E0 (tCons (tVar 0) (tCons (tLst (tCons (tC (.int 0)) (tCons (tC (.int 1)) (tCons (tC (.int 0)) tNil)))) tNil)))) (gName 7) (tSeq (tIfS (tNot (tB (tCall (sp_same T 7) [] E0 (tCons (tCall (sp_law_asked T) [] E0 (tCons (tVar 7) (tCons (tLst (tCons (tVar 1) tNil)) (tCons (tVar 3) tNil)))) (tCons (tOp (rIxL K) (tLst (tCons (tVar 6) (tCons (tLst (tCons (tC (.str "told")) (tCons (tVar 9) tNil))) tNil))) (tVar 7)) tNil))))) (tRet (tC (.bl false))) tNext)
  (tAsg (tOp rSubI (tC (.int 1)) (tVar 3)) (gName 3))))
  (t_pr_tail2 T))
theorem chk_oth {σ : L2.St} {H' : Hp} {v : V} {i : Nat} {t : TE} {x : Int} {n : Nat} {acts : List Acty} (hi : σ[i]? = some (some v)) (ht : ∀ (H : Hp) (Q : VK), Q (.int x) H → t σ H Q)
    (hd : Dp K H' v (eP n acts)) (hv : Valid n acts) (q : ∀ H2, Same H' H2 → Q (.bl true) H2) : tCall (sp_same T 7) [] E0 (tCons (tAsk T (tC (.int 1)) t i) (tCons (tLst (tCons (tC (.str "told")) (tCons (tCall (sp_law_reduced T) [] E0 (tCons (tVar i) tNil)) tNil))) tNil)) σ H' Q := by
  walk_at "n"
  have hT := tabC_is (n := n) hv.rank
  generalize tabC n acts = tb at hT
  refine ⟨_, hi, by show 1 ≤ sizeLine; decide, fun a na => ht _ _ ?_⟩
  have sa := same_upd (o := .lst [v]) na
  refine ask_red T (E := E0) (.of upd_same) (hd.same sa) hv hT fun H5 p5 u5 s5 e5 d5 => ?_
  refine ⟨_, hi, _, n, acts, rfl, (hd.same sa).same s5, hv, fun H6 v6 tb' s6 hT6 d6 => ?_⟩
  cases hT6.uniq hT
  have hl6 := (valid_red hv hT).good.most
  refine ⟨by show 2 ≤ sizeLine; decide, fun g6 ng6 => ?_⟩
  have sg6 := same_upd (o := .lst [.str "told", v6]) ng6
  exact same_word T (E := E0) (sg6 _ _ (s6 _ _ e5)) upd_same ((d5.same s6).same sg6) (d6.same sg6) (by decide) (small_P (by omega)) fun H7 s7 => q H7 ((((sa.trans s5).trans s6).trans sg6).trans s7)
theorem chk_len {σ : L2.St} {H' : Hp} {i : Nat} {g : Addr} {xs : List V} {Q : Bool → Hp → Prop} (hi : σ[i]? = some (some (.ref g))) (hg : H' g = some (.lst xs)) (q : Q (decide ((xs.length : Int) ≤ 120)) H') : tTest (tOp rLeI (tCB (rLenSeq K) (tCons (tVar i) tNil)) (tC (.int 120))) σ H' Q :=
  ⟨_, hi, g, _, rfl, .inl (.of hg), _, _, rfl, rfl, _, rfl, q⟩
theorem not_true {te : TE} {σ : L2.St} {H' : Hp} {Q : Bool → Hp → Prop} (h : ∀ Q : VK, (∀ H2, Same H' H2 → Q (.bl true) H2) → te σ H' Q) (q : ∀ H2, Same H' H2 → Q false H2) : tNot (tB te) σ H' Q :=
  h _ fun H2 s2 => ⟨true, rfl, q H2 s2⟩
theorem if_or2 {A B : TE} {F r : TS} {D : Ends} {σ : L2.St} {H' : Hp} (hA : ∀ Q : VK, (∀ H2, Same H' H2 → Q (.bl true) H2) → A σ H' Q) (hB : ∀ H2, Same H' H2 → ∀ Q : VK, (∀ H3, Same H2 H3 → Q (.bl true) H3) → B σ H2 Q) (hr : ∀ H3, Same H' H3 → r D σ H3) :
    tSeq (tIfS (tOr (tNot (tB A)) (tNot (tB B))) F tNext) r D σ H' :=
  hA _ fun H2 s2 => ⟨true, rfl, iteF (hB H2 s2 _ fun H3 s3 => ⟨true, rfl, iteF (hr H3 (s2.trans s3))⟩)⟩
theorem if_not1 {A : TE} {F : TS} {D : Ends} {σ : L2.St} {H' : Hp} (hA : ∀ Q : VK, (∀ H2, Same H' H2 → Q (.bl true) H2) → A σ H' Q) (hr : ∀ H3, Same H' H3 → D.nx σ H3) : tIfS (tNot (tB A)) F tNext D σ H' :=
  hA _ fun H2 s2 => ⟨true, rfl, iteF (hr H2 s2)⟩
theorem if_len {i : Nat} {F r : TS} {D : Ends} {σ : L2.St} {H' : Hp} {g : Addr} {xs : List V} (hi : σ[i]? = some (some (.ref g))) (hg : H' g = some (.lst xs)) (h1 : xs.length ≤ 120 → F { D with nx := r D } σ H') (h2 : ¬ xs.length ≤ 120 → r D σ H') :
    tSeq (tIfS (tTest (tOp rLeI (tCB (rLenSeq K) (tCons (tVar i) tNil)) (tC (.int 120)))) F tNext) r D σ H' := by
  refine chk_len hi hg ?_
  by_cases h : xs.length ≤ 120
  · rw [decide_eq_true (by omega)]; exact iteT (h1 h)
  · rw [decide_eq_false (by omega)]; exact iteF (h2 h)
theorem pr_tail3 {H' : Hp} {b : Addr} {n m : Nat} {acts bcts : List Acty} {rows : List (List (Option Int))} {v w wh sm : V} {p g du : Addr} {ps : List Addr} {turn : Int} {y7 y10 y11 y12 : Option V} (h : PRt K H' n m acts bcts rows v w wh sm p g du ps)
    (hv : Valid n acts) (hv2 : Valid m bcts) (hT : IsTab n acts rows) (q : ∀ H2, Same H' H2 → Q (.bl true) H2) :
    t_pr_tail3 T (rtE Q) [some (.ref b), some v, some w, some (.int turn), some (.ref p), some wh, some (.ref du), y7, some (.ref g), some sm, y10, y11, y12] H' := by
  unfold t_pr_tail3
  obtain ⟨r, hr⟩ := hv.rank
  have hvR := valid_red hv hT
  have hTR : IsTab n (redR n rows) rows := hT.red hr
  refine if_or2 (fun Q q => chk_oth T (x := turn) rfl (fun H Q q => ⟨_, rfl, q⟩) h.other hv2 q) (fun H2 s2 Q q => chk_red T (x := 1 - turn) rfl rfl (fun H Q q => ⟨_, rfl, _, _, rfl, rfl, q⟩) (h.same s2).plan hv hT (h.same s2).small q) fun H3 s3 => ?_
  have h3 := h.same s3
  obtain ⟨gx, eg, hgl⟩ := h3.pairs
  have fin : ∀ H9, Same H' H9 → tCall (sp_same T 7) [] E0 (tCons (tAsk T (tC (.int 1)) (tOp rSubI (tC (.int 1)) (tVar 3)) 9) (tCons (tTold 9) tNil)) [some (.ref b), some v, some w, some (.int turn), some (.ref p), some wh, some (.ref du), y7, some (.ref g), some sm, y10, y11, y12] H9 Q := fun H9 s9 =>
    chk_red T (x := 1 - turn) rfl rfl (fun H Q q => ⟨_, rfl, _, _, rfl, rfl, q⟩) (h.same s9).small hvR hTR (h.same s9).small fun H10 s10 => q H10 (s9.trans s10)
  refine if_len rfl eg (fun hl => ?_) fun _ => fin H3 s3
  have hc : (closR n rows).length ≤ 120 := by omega
  have hvC := valid_clos hv hT hc
  have hTC : IsTab n (closR n rows) rows := hT.clos hr
  refine if_or2 (fun Q q => chk_clos T (x := turn) rfl rfl (fun H Q q => ⟨_, rfl, q⟩) h3.whole hvC hTC hc h3.whole q) (fun H2 s2 Q q => chk_red T (x := turn) rfl rfl (fun H Q q => ⟨_, rfl, q⟩) (h3.same s2).whole hvC hTC (h3.same s2).small q) fun H4 s4 => ?_
  have h4 := h3.same s4
  exact if_not1 (fun Q q => chk_clos T (x := turn) rfl rfl (fun H Q q => ⟨_, rfl, q⟩) h4.small hvR hTR hc h4.whole q) fun H5 s5 => fin H5 ((s3.trans s4).trans s5)
theorem pr_tail2 {H' : Hp} {b : Addr} {n m : Nat} {acts bcts : List Acty} {rows : List (List (Option Int))} {v w wh sm : V} {p g du : Addr} {ps : List Addr} {turn : Int} {y7 y10 y11 y12 : Option V} (h : PRt K H' n m acts bcts rows v w wh sm p g du ps)
    (hv : Valid n acts) (hv2 : Valid m bcts) (hT : IsTab n acts rows) (q : ∀ H2, Same H' H2 → Q (.bl true) H2) :
    t_pr_tail2 T (rtE Q) [some (.ref b), some v, some w, some (.int turn), some (.ref p), some wh, some (.ref du), y7, some (.ref g), some sm, y10, y11, y12] H' := by
  unfold t_pr_tail2; walk_at "n"
  obtain ⟨r, hr⟩ := hv.rank
  have hvR := valid_red hv hT
  have hTR : IsTab n (redR n rows) rows := hT.red hr
  have hlr := hvR.good.most
  obtain ⟨ps9, w9, rfl, hs9, hd9⟩ := eP_inv h.small
  obtain ⟨pp, wa, rfl, hp, hw⟩ := eP_inv h.plan
  refine ⟨_, rfl, ps9, _, 0, _, rfl, rfl, hs9, atI_nat (j := 0) rfl, _, rfl, ps9, _, 1, _, rfl, rfl, hs9, atI_nat (j := 1) rfl, ?_⟩
  refine ⟨n, w9, _, rfl, hd9, hvR.good, hvR.rank, fun H1 p2 ps2 rows2 s1 hR2 _ _ hT2 => ?_⟩
  have h1 := h.same s1
  cases hT2.uniq hTR
  refine ⟨_, rfl, ne_rows hR2 h1.tab ⟨_, rfl, ?_⟩⟩
  rw [decide_eq_true rfl]
  refine iteF ?_
  obtain ⟨s9, xs9, e9, hq9, dx9⟩ := (hd9.same s1).tup_inv
  subst e9
  refine lc_def ⟨_, rfl, ps9, _, 1, _, rfl, rfl, s1.tup hs9, atI_nat (j := 1) rfl, s9, rfl, ⟨_, hq9⟩, ?_⟩
  have hl9 : xs9.length = (redR n rows).length := by rw [dx9.length, List.length_map]
  refine comp_tup (K := K) (xs := xs9) hq9 (fun _ => none) (by omega) (fun i d _ e => nomatch e) ?_ ?_
  · intro i x H2 ex s2 Qy Qn k1 k2
    obtain ⟨dx, e1, hx⟩ := dx9.getV ex
    rw [List.getElem?_map] at e1
    cases z : (redR n rows)[i]? with
    | none => rw [z] at e1; cases e1
    | some o =>
      rw [z] at e1
      cases e1
      walk_at "n"
      have s12 := s1.trans s2
      refine ⟨rfl, _, rfl, _, rfl, pp, _, 1, _, rfl, rfl, s12.tup hp, atI_nat (j := 1) rfl, ?_⟩
      refine ⟨_, _, hx.same s2, hw.same s12, (sh_eA o).shaped (by decide), (sh_tuple sh_eA acts).shaped (by decide), _, rfl, ?_⟩
      have hm : o ∈ acts := by
        obtain ⟨a, b', d⟩ := o
        exact hT.red_mem hr (fun a b d hm => ⟨(hv.good.ev a b d hm).1, (hv.good.ev a b d hm).2.1⟩) (List.mem_of_getElem? z)
      have ha : ((acts.map eA).any fun z => PyData.eqv z (eA o)) = true := by
        rw [List.any_eq_true]
        exact ⟨eA o, List.mem_map_of_mem hm, by rw [eqv_A]; exact decide_eq_true rfl⟩
      rw [ha]
      exact iteF (k2 rfl _ (Same.refl _))
  intro D ys H2 s2 hD hx hy
  rw [fm_none] at hy
  cases hy
  have h2 := h1.same s2
  refine ⟨Nat.zero_le _, fun o no => ne_nilI (.of (upd_at hx no)) (.of upd_same) ⟨_, rfl, iteF ?_⟩⟩
  have so := same_upd (o := .lst []) no
  have h3 := h2.same so
  have s03 : Same H' _ := (s1.trans s2).trans so
  exact pr_tail3 T h3 hv hv2 hT fun H9 s9 => q H9 (s03.trans s9)
theorem pr_tail {H' : Hp} {b : Addr} {k n m : Nat} {acts bcts : List Acty} {rows : List (List (Option Int))} {v w wh sm : V} {p g du : Addr} {ps : List Addr} {turn : Int} {y7 y10 y11 y12 : Option V} (bt : But b H H') (hb : Box H' b k) (hk : k + 3 ≤ lim) (h : PRt K H' n m acts bcts rows v w wh sm p g du ps)
    (n1 : p ≠ b) (n2 : ∀ x ∈ ps, x ≠ b) (n3 : g ≠ b) (n4 : du ≠ b) (hv : Valid n acts) (hv2 : Valid m bcts) (hT : IsTab n acts rows) (q : ∀ H', But b H H' → Box H' b (k + 3) → Q (.bl true) H') :
    t_pr_tail T (rtE Q) [some (.ref b), some v, some w, some (.int turn), some (.ref p), some wh, some (.ref du), y7, some (.ref g), some sm, y10, y11, y12] H' := by
  unfold t_pr_tail; walk_at "n"
  have hlim : lim = 1000000 := rfl
  refine ⟨_, rfl, by show 3 ≤ sizeLine; decide, fun l nl => ?_⟩
  have sl := same_upd (o := .lst [.int 0, .int 1, .int 0]) nl
  refine ⟨b, l, [0, 1, 0], k, rfl, .of upd_same, by simp, hb.same sl, by simp; omega, fun H1 o fs s1 no eo hp b1 => ⟨o, rfl, ⟨_, .of eo⟩, ?_⟩⟩
  have hlf : fs.length = 3 := hp.length_eq
  have h1 := (h.same sl).but s1 ((hb.same sl).keep s1) n1 n2 n3 n4
  refine for_it (walk_list (xs := nats fs)) (fun i σ H' => ∃ (t : Int) (y7 : Option V), σ = [some (.ref b), some v, some w, some (.int t), some (.ref p), some wh, some (.ref du), y7, some (.ref g), some sm, y10, y11, y12] ∧ Same H1 H' ∧ PRt K H' n m acts bcts rows v w wh sm p g du ps)
    ⟨turn, y7, rfl, .refl _, h1⟩ (fun i σ H' _ z => by obtain ⟨_, _, _, z, _⟩ := z; exact .of (z _ _ eo)) ?_ ?_
  · rintro i x σ H2 H3 hi ⟨t, y7', rfl, s2, h2⟩ ⟨rfl, ex⟩
    rw [nats_len] at hi
    obtain ⟨e, he⟩ : ∃ e, fs[i]? = some e := ⟨_, List.getElem?_eq_getElem hi⟩
    cases (nats_get he).symm.trans ex
    have hm : e ∈ [0, 1, 0] := hp.mem_iff.mp (List.mem_of_getElem? he)
    have h01 : e = 0 ∨ e = 1 := by
      simp only [List.mem_cons, List.not_mem_nil, or_false] at hm
      omega
    walk_at "n"
    refine ⟨_, rfl, _, rfl, by show 1 ≤ sizeLine; decide, fun a na => ⟨_, rfl, ?_⟩⟩
    have sa := same_upd (o := .lst [v]) na
    have h3 := h2.same sa
    have hlr : (redR n rows).length ≤ 1000 := by have := (valid_red hv hT).good.most; omega
    rcases h01 with rfl | rfl
    · refine ask_clos T (E := E0) (.of upd_same) h3.plan hv hT (fun hl H4 p4 u4 s4 e4 d4 => ?_) (fun hl H4 p4 u4 s4 e4 d4 => ?_)
      · refine ⟨_, rfl, _, rfl, by show 2 ≤ sizeLine; decide, fun r1 m1 => ⟨by show 2 ≤ sizeLine; decide, fun r2 m2 => ⟨_, rfl, r2, _, _, _, rfl, rfl, .of upd_same, atI_nat (j := 0) rfl, ?_⟩⟩⟩
        have s5 := (same_upd (o := .lst [.str "told", sm]) m1).trans (same_upd (o := .lst [.ref du, .ref r1]) m2)
        have h5 := (h3.same s4).same s5
        have ed := h5.due
        rw [if_pos hl] at ed
        refine same_word T (E := E0) (s5 _ _ e4) ed (d4.same s5) h5.whole (by decide) (small_P (by omega)) fun H6 s6 => ⟨_, rfl, iteF ⟨_, rfl, _, _, rfl, rfl, ?_⟩⟩
        exact ⟨_, _, rfl, ((s2.trans sa).trans (s4.trans s5)).trans s6, h5.same s6⟩
      · refine ⟨_, rfl, _, rfl, by show 2 ≤ sizeLine; decide, fun r1 m1 => ⟨by show 2 ≤ sizeLine; decide, fun r2 m2 => ⟨_, rfl, r2, _, _, _, rfl, rfl, .of upd_same, atI_nat (j := 0) rfl, ?_⟩⟩⟩
        have s5 := (same_upd (o := .lst [.str "told", sm]) m1).trans (same_upd (o := .lst [.ref du, .ref r1]) m2)
        have h5 := (h3.same s4).same s5
        have ed := h5.due
        rw [if_neg (by omega)] at ed
        subst d4
        refine same_word T (E := E0) (s5 _ _ e4) ed (.int _) (.int _) (by decide) trivial fun H6 s6 => ⟨_, rfl, iteF ⟨_, rfl, _, _, rfl, rfl, ?_⟩⟩
        exact ⟨_, _, rfl, ((s2.trans sa).trans (s4.trans s5)).trans s6, h5.same s6⟩
    · refine ask_red T (E := E0) (.of upd_same) h3.plan hv hT fun H4 p4 u4 s4 e4 d4 => ?_
      refine ⟨_, rfl, _, rfl, by show 2 ≤ sizeLine; decide, fun r1 m1 => ⟨by show 2 ≤ sizeLine; decide, fun r2 m2 => ⟨_, rfl, r2, _, _, _, rfl, rfl, .of upd_same, atI_nat (j := 1) rfl, ?_⟩⟩⟩
      have sr := same_upd (o := .lst [.ref du, .ref r1]) m2
      have s5 := (same_upd (o := .lst [.str "told", sm]) m1).trans sr
      have h5 := (h3.same s4).same s5
      refine same_word T (E := E0) (s5 _ _ e4) (sr _ _ upd_same) (d4.same s5) h5.small (by decide) (small_P hlr) fun H6 s6 => ⟨_, rfl, iteF ⟨_, rfl, _, _, rfl, rfl, ?_⟩⟩
      exact ⟨_, _, rfl, ((s2.trans sa).trans (s4.trans s5)).trans s6, h5.same s6⟩
  · rintro σ H2 ⟨t, y7', rfl, s2, h2⟩
    refine pr_tail2 T h2 hv hv2 hT fun H3 s3 => q H3 (((bt.tr sl).trans s1).tr (s2.trans s3)) ((b1.same (s2.trans s3)).mono (by simp))
theorem pr_short : t_law_plan_right T = (tSeq (tAsg (tCall (sp_law_times T) [] E0 (tCons (tOp (rIxT K) (tVar 1) (tC (.int 0))) (tCons (tOp (rIxT K) (tVar 1) (tC (.int 1))) tNil))) (gName 4))
  (tSeq (tPar 8 9 (tCons (tCall (sp_law_pairs T) [] E0 (tCons (tVar 4) tNil)) (tCons (tCall (sp_law_reduced T) [] E0 (tCons (tVar 1) tNil)) tNil)))
  (tSeq (tAsg (tTup (tCons (tOp (rIxT K) (tVar 1) (tC (.int 0))) (tCons (tCB (rTupleOf K) (tCons (tLc (iList K (tVar 8)) (gTup K 2 (gCons (gName 11) (gCons (gName 12) gNil))) tYes (tTup (tCons (tVar 11) (tCons (tVar 12) (tCons (tOp (rIxL K) (tOp (rIxL K) (tVar 4) (tVar 11)) (tVar 12)) tNil)))) [11, 12]) tNil)) tNil))) (gName 5))
  (tSeq (tAsg (tIf (tTest (tOp rLeI (tCB (rLenSeq K) (tCons (tVar 8) tNil)) (tC (.int 120)))) (tLst (tCons (tC (.str "told")) (tCons (tVar 5) tNil))) (tLst (tCons (tC (.str "many")) (tCons (tCB (rLenSeq K) (tCons (tVar 8) tNil)) tNil)))) (gName 6))
  (t_pr_tail T))))) := rfl
theorem rd_law_plan_right (h : sp_law_plan_right T vs H Q E) : t_law_plan_right T (rtE Q) (start N_law_plan_right vs) H := by
  rw [pr_short]; walk_at "n"
  obtain ⟨b, v, w, n, m, acts, bcts, turn, k, rfl, hd, hv, hd2, hv2, hb, hk, q⟩ := h
  have hlim : lim = 1000000 := rfl
  obtain ⟨pp, wa, rfl, hp, hw⟩ := eP_inv hd
  have h20 := hv.good.n20
  refine ⟨_, rfl, pp, _, 0, _, rfl, rfl, hp, atI_nat (j := 0) rfl, _, rfl, pp, _, 1, _, rfl, rfl, hp, atI_nat (j := 1) rfl, ?_⟩
  refine ⟨n, wa, acts, rfl, hw, hv.good, hv.rank, fun H1 p ps rows s1 hR np nps hT => ?_⟩
  have sq := A69.IsTab.square hT
  have hlp := pairsR_len n rows
  have h400 : n * n ≤ 20 * 20 := Nat.mul_le_mul h20 h20
  have hcl : (closR n rows).length = (pairsR n rows).length := by rw [closR, List.length_map]
  refine ⟨_, rfl, p, ps, n, rows, rfl, hR, sq, h20, fun H2 g xs s2 ng eg dg => ?_⟩
  have hlx : xs.length = (pairsR n rows).length := by rw [dg.length, List.length_map]
  refine ⟨_, rfl, _, n, acts, rfl, (hd.same s1).same s2, hv, fun H3 sm rows' s3 hT' dsm => ?_⟩
  cases hT'.uniq hT
  refine ⟨_, _, rfl, ?_⟩
  -- whole
  have s13 := s2.trans s3
  have s03 := s1.trans s13
  have eg3 := s3 _ _ eg
  have dg3 := dg.same s3
  have hR3 := hR.same s13
  refine ⟨_, rfl, pp, _, 0, _, rfl, rfl, s03.tup hp, atI_nat (j := 0) rfl, ?_⟩
  refine lc_def ⟨_, rfl, g, rfl, ⟨_, .of eg3⟩, ?_⟩
  refine comp_lst (K := K) (xs := xs) (.of eg3) (fun i => ((pairsR n rows)[i]?).map fun p => eA (withD rows p)) (by omega) (fun i d _ e => ?_) ?_ ?_
  · cases z : (pairsR n rows)[i]? with
    | none => rw [z] at e; cases e
    | some o => rw [z] at e; cases e; rfl
  · intro i x H4 ex s4 Qy Qn h1 h2
    obtain ⟨a, c, t, z, rfl, ht'⟩ := pairs_get dg3 ex
    obtain ⟨han, hcn, hac, hsome⟩ := mem_pairsR.mp (List.mem_of_getElem? z)
    obtain ⟨l, el⟩ : ∃ l, at2 rows a c = some l := Option.isSome_iff_exists.mp hsome
    rw [z] at h1
    walk_at "n"
    refine ⟨t, _, rfl, s4.tup ht', rfl, _, _, rfl, _, _, rfl, rfl, rfl, iteT ?_⟩
    obtain ⟨qa, ys, ea, _, ta, _, hyb⟩ := (hR3.same s4).get sq han
    refine ⟨_, rfl, _, rfl, _, rfl, _, rfl, p, _, _, _, rfl, rfl, .of (hR3.same s4).at_, atI_nat ea, _, rfl, qa, ys, _, _, rfl, rfl, .of ta, atI_nat (hyb c hcn), ?_⟩
    refine ⟨by show 3 ≤ sizeLine; decide, fun u nu => ?_⟩
    refine h1 _ rfl _ _ (same_upd nu) (.tup (.of upd_same) (.cons (.int _) (.cons (.int _) (.cons ?_ .nil))))
    simp only [withD, el]; exact .int _
  intro D ys H4 sm4 hD hx hy
  have e1 : (List.range xs.length).filterMap (fun i => ((pairsR n rows)[i]?).map fun p => eA (withD rows p)) = (closR n rows).map eA := by
    rw [hlx, fm_map, closR, List.map_map]; rfl
  rw [e1] at hy
  refine ⟨D, _, rfl, .inl ⟨.of hx, fun t nt => ⟨by show 2 ≤ sizeLine; decide, fun u nu => ?_⟩⟩⟩
  have st := same_upd (o := .tup ys) nt
  have su := same_upd (o := .tup [.int (n : Nat), .ref t]) nu
  have dwh : Dp K (upd (upd H4 t (.tup ys)) u (.tup [.int (n : Nat), .ref t])) (.ref u) (eP n (closR n rows)) := .tup (.of upd_same) (.cons (.int _) (.cons (Dp.same su (.tup (.of upd_same) (hy.same st))) .nil))
  have s36 := (sm4.trans st).trans su
  generalize hH6 : upd (upd H4 t (.tup ys)) u (.tup [.int (n : Nat), .ref t]) = H6 at *
  have s06 := s03.trans s36
  have eg6 := s36 _ _ eg3
  -- due
  refine ⟨_, rfl, g, _, rfl, .inl (.of eg6), _, _, rfl, rfl, _, rfl, ?_⟩
  have pb := hb.ne np
  have gb := hb.ne (s1.free ng)
  have qb : ∀ x ∈ ps, x ≠ b := fun x hx => hb.ne (nps x hx)
  by_cases hc : (closR n rows).length ≤ 120
  · have hz : decide ((xs.length : Int) ≤ 120) = true := decide_eq_true (by omega)
    rw [hz]
    refine iteT ⟨_, rfl, by show 2 ≤ sizeLine; decide, fun du ndu => ?_⟩
    have sd := same_upd (o := .lst [.str "told", .ref u]) ndu
    refine pr_tail T (bcts := bcts) (.of (s06.trans sd)) (hb.same (s06.trans sd)) hk ⟨(hd.same s06).same sd, (hd2.same s06).same sd, (hR3.same s36).same sd, (dsm.same s36).same sd, dwh.same sd, ⟨xs, sd _ _ eg6, by omega⟩, ?_⟩ pb qb gb (hb.ne (s06.free ndu)) hv hv2 hT q
    rw [if_pos hc]; exact upd_same
  · have hz : decide ((xs.length : Int) ≤ 120) = false := decide_eq_false (by omega)
    rw [hz]
    refine iteF ⟨_, rfl, g, _, rfl, .inl (.of eg6), by show 2 ≤ sizeLine; decide, fun du ndu => ?_⟩
    have sd := same_upd (o := .lst [.str "many", .int (xs.length : Nat)]) ndu
    refine pr_tail T (bcts := bcts) (.of (s06.trans sd)) (hb.same (s06.trans sd)) hk ⟨(hd.same s06).same sd, (hd2.same s06).same sd, (hR3.same s36).same sd, (dsm.same s36).same sd, dwh.same sd, ⟨xs, sd _ _ eg6, by omega⟩, ?_⟩ pb qb gb (hb.ne (s06.free ndu)) hv hv2 hT q
    rw [if_neg hc, hcl, ← hlx]; exact upd_same
end
end A69
end

section
set_option maxRecDepth 100000
set_option maxHeartbeats 2000000
/-! LRr: readings of the law: spare activities. -/
namespace A69
open PySem PySem.Spec PyProof.Rows L2 KX MP
local macro_rules | `(tactic| walk_at "n") => `(tactic| dsimp only [rtE, tRet, tAndV, tOrV, tNotV, tCB, tCons, tNil, tVar, tC, tOp, tUn, tChain, tTest, tB, tAnd, tOr, tNot, tIf, tIfS, tSeq, tAsg, tDrop, tNext, gName, tPar, tPar3, tTup, tLst, tCall, tBM, tBM0, tSl, tPart, tNoPart, gTup, gCons, gNil, gSub, iRng1, iRng2, iList, iTup, iEnumT, iRgV, tYes, tLstRg, tRg1])

def t_sr2 {mg : Str → Option Value} {K : PySem.W.Frag} (T : TX K mg) : TS := (tSeq (tFor (iList K (tSl (rSlL K) (tCall (sp_law_mixed T) [] E0 (tCons (tVar 0) (tCons (tLstRg (tRg1 (tCB (rLenSeq K) (tCons (tOp (rIxT K) (tVar 5) (tC (.int 1))) tNil)))) tNil))) tNoPart (tPart (tIf (tTest (tOp rGtI (tOp (rIxT K) (tVar 1) (tC (.int 0))) (tC (.int 9)))) (tC (.int 2)) (tC (.int 8)))))) (gName 3) (tSeq (tAsg (tCall (sp_law_without T) [] E0 (tCons (tVar 5) (tCons (tVar 3) tNil))) (gName 6))
  (tIfS (tOr (tTest (tOp (rEqD K) (tCall (sp_law_times T) [] E0 (tCons (tOp (rIxT K) (tVar 6) (tC (.int 0))) (tCons (tOp (rIxT K) (tVar 6) (tC (.int 1))) tNil))) (tVar 4))) (tNot (tB (tCall (sp_same T 7) [] E0 (tCons (tCall (sp_law_asked T) [] E0 (tCons (tC (.int 2)) (tCons (tLst (tCons (tVar 5) (tCons (tVar 3) tNil))) (tCons (tVar 2) tNil)))) (tCons (tLst (tCons (tC (.str "told")) (tCons (tC (.bl false)) tNil))) tNil)))))) (tRet (tC (.bl false))) tNext)))
  (tRet (tC (.bl true))))
def t_sr1 {mg : Str → Option Value} {K : PySem.W.Frag} (T : TX K mg) : TS := (tSeq (tFor (iList K (tSl (rSlL K) (tCall (sp_law_mixed T) [] E0 (tCons (tVar 0) (tCons (tLstRg (tRg1 (tCB (rLenSeq K) (tCons (tOp (rIxT K) (tVar 1) (tC (.int 1))) tNil)))) tNil))) tNoPart (tPart (tIf (tTest (tOp rGtI (tOp (rIxT K) (tVar 1) (tC (.int 0))) (tC (.int 9)))) (tC (.int 3)) (tC (.int 8)))))) (gName 3) (tSeq (tAsg (tCall (sp_law_without T) [] E0 (tCons (tVar 1) (tCons (tVar 3) tNil))) (gName 6))
  (tSeq (tIfS (tNot (tB (tCall (sp_same T 7) [] E0 (tCons (tCall (sp_law_asked T) [] E0 (tCons (tC (.int 2)) (tCons (tLst (tCons (tVar 1) (tCons (tVar 3) tNil))) (tCons (tVar 2) tNil)))) (tCons (tLst (tCons (tC (.str "told")) (tCons (tOp (rEqD K) (tCall (sp_law_times T) [] E0 (tCons (tOp (rIxT K) (tVar 6) (tC (.int 0))) (tCons (tOp (rIxT K) (tVar 6) (tC (.int 1))) tNil))) (tVar 4)) tNil))) tNil))))) (tRet (tC (.bl false))) tNext)
  (tAsg (tOp rSubI (tC (.int 1)) (tVar 2)) (gName 2)))))
  (t_sr2 T))
theorem cut_nats (fs : List Nat) (j : Nat) : cutV (nats fs) none (some (j : Int)) = nats (fs.take (min j fs.length)) := by
  unfold cutV
  rw [HT.sIx_none, List.drop_zero, Nat.sub_zero, HT.sIx_nat, nats_len]
  simp [nats, List.map_take]
theorem not_erased {l : List Acty} (h : l.Nodup) {k : Nat} (hk : k < l.length) : l[k] ∉ l.eraseIdx k := by
  intro hm
  obtain ⟨i, hi, hne, e⟩ := List.mem_eraseIdx_iff_getElem.mp hm
  exact hne ((List.getElem_inj h).mp e)
section
variable {K : PySem.W.Frag} {mg : Str → Option Value} (T : TX K mg) {vs : List V} {H : Hp} {Q : VK} {E : XK}

theorem sr_short : t_law_spare_right T = (tSeq (tPar 4 5 (tCons (tCall (sp_law_times T) [] E0 (tCons (tOp (rIxT K) (tVar 1) (tC (.int 0))) (tCons (tOp (rIxT K) (tVar 1) (tC (.int 1))) tNil))) (tCons (tCall (sp_law_reduced T) [] E0 (tCons (tVar 1) tNil)) tNil)))
  (t_sr1 T)) := rfl
abbrev ForOver (J : It) (g : TG) (tb : TS) (D : Ends) (σ : L2.St) (H1 : Hp) : Prop := ∃ W : Nat → Nat → L2.St → Hp → Prop, (∃ m, W 0 m σ H1) ∧ ∀ i m σ H, W i m σ H →
    (J.stop i H ∧ D.nx σ H) ∨ (J.go i H ∧ ∃ N : L2.St → Hp → Prop, (∀ σ' H', N σ' H' → ∃ m', m' < m ∧ W (i + 1) m' σ' H') ∧ ∀ x H', J.yld i H x H' → g x σ H' fun σ2 H2 => tb { D with nx := N, ct := N, bk := D.nx } σ2 H2)
theorem for_def {wi : TI} {g : TG} {tb u : TS} {D : Ends} {σ : L2.St} {H : Hp} (h : wi σ H fun J H1 => ForOver J g tb { D with nx := u D } σ H1) : tSeq (tFor wi g tb) u D σ H := h
theorem src_ok {σ : L2.St} {H' : Hp} {R : It → Hp → Prop} {b : Addr} {i k n n' c1 c2 : Nat} {v vi : V} {acts acts' : List Acty} (h0 : σ[0]? = some (some (.ref b))) (hb : Box H' b k) (h1 : σ[1]? = some (some v)) (hd : Dp K H' v (eP n acts)) (hi : σ[i]? = some (some vi)) (hdi : Dp K H' vi (eP n' acts')) (hl : acts'.length ≤ 120) (hk : k + 120 ≤ lim)
    (q : ∀ H2 o fs, But b H' H2 → Box H2 b (k + 120) → H2 o = some (.lst (nats fs)) → (∀ x ∈ fs, x < acts'.length) → R (Itl K o) H2) :
    iList K (tSl (rSlL K) (tCall (sp_law_mixed T) [] E0 (tCons (tVar 0) (tCons (tLstRg (tRg1 (tCB (rLenSeq K) (tCons (tOp (rIxT K) (tVar i) (tC (.int 1))) tNil)))) tNil))) tNoPart (tPart (tIf (tTest (tOp rGtI (tOp (rIxT K) (tVar 1) (tC (.int 0))) (tC (.int 9)))) (tC (.int c1)) (tC (.int c2))))) σ H' R := by
  walk_at "n"
  have hlim : lim = 1000000 := rfl
  obtain ⟨pp, wa, rfl, hp, hw⟩ := eP_inv hd
  obtain ⟨p9, w9, rfl, hp9, hw9⟩ := eP_inv hdi
  obtain ⟨wp, xs, rfl, hsx, hdx⟩ := hw9.tup_inv
  have hlx : xs.length = acts'.length := by rw [hdx.length, List.length_map]
  refine ⟨_, h0, _, hi, p9, _, 1, _, rfl, rfl, hp9, atI_nat (j := 1) rfl, wp, xs, rfl, .inr hsx, _, rfl, .of_le (by omega) (by omega) (by omega) (by omega), fun l nl => ?_⟩
  rw [rg_nats]
  have sl := same_upd (o := .lst (nats (List.range xs.length))) nl
  refine ⟨b, l, List.range xs.length, k, rfl, .of upd_same, by rw [List.length_range]; omega, hb.same sl, by rw [List.length_range]; omega, fun H1 o fs s1 no eo hpm b1 => ?_⟩
  have hd1 := (hd.same sl).keep ((hb.same sl).keep s1) (flat_eP _ _)
  obtain ⟨_, _, z1, hp1, _⟩ := eP_inv hd1
  cases z1
  rw [List.length_range] at b1
  have hlt : ∀ x ∈ fs, x < acts'.length := fun x hx => by
    have := List.mem_range.mp (hpm.mem_iff.mp hx); omega
  have fin : ∀ j : Nat, ∀ o2, H1 o2 = none → R (Itl K o2) (upd H1 o2 (.lst (cutV (nats fs) none (some (j : Int))))) := fun j o2 n2 => by
    refine q _ o2 (fs.take (min j fs.length)) ((But.of sl).trans (s1.upd_new n2)) ((b1.same (same_upd n2)).mono (by omega)) ?_ fun x hx => hlt x (List.mem_of_mem_take hx)
    rw [cut_nats]; exact upd_same
  refine ⟨_, h1, pp, _, 0, _, rfl, rfl, hp1, atI_nat (j := 0) rfl, _, _, rfl, rfl, _, rfl, ?_⟩
  by_cases hc : decide ((n : Int) > 9) = true
  · rw [hc]
    exact iteT ⟨_, rfl, o, _, rfl, .of eo, fun o2 n2 => ⟨o2, rfl, ⟨_, .of upd_same⟩, fin c1 o2 n2⟩⟩
  · have hc' : decide ((n : Int) > 9) = false := by simpa using hc
    rw [hc']
    exact iteF ⟨_, rfl, o, _, rfl, .of eo, fun o2 n2 => ⟨o2, rfl, ⟨_, .of upd_same⟩, fin c2 o2 n2⟩⟩
/-- what stands on the heap -/
structure SRt (K : PySem.W.Frag) (H' : Hp) (n : Nat) (acts : List Acty) (rows : List (List (Option Int))) (v sm : V) (p : Addr) (ps : List Addr) : Prop where
  plan : Dp K H' v (eP n acts)
  tab : HRows H' p ps rows
  small : Dp K H' sm (eP n (redR n rows))
theorem SRt.same {H H2 : Hp} {n : Nat} {acts : List Acty} {rows : List (List (Option Int))} {v sm : V} {p : Addr} {ps : List Addr} (h : SRt K H n acts rows v sm p ps) (s : Same H H2) : SRt K H2 n acts rows v sm p ps := ⟨h.plan.same s, h.tab.same s, h.small.same s⟩
theorem sr2 {H' : Hp} {b : Addr} {n k0 k : Nat} {acts : List Acty} {rows : List (List (Option Int))} {v sm : V} {p : Addr} {ps : List Addr} {turn : Int} {y3 y6 : Option V} (bt : But b H H') (hb : Box H' b k) (hk : k + 200 ≤ k0) (hk0 : k0 ≤ lim)
    (h : SRt K H' n acts rows v sm p ps) (n1 : p ≠ b) (n2 : ∀ x ∈ ps, x ≠ b) (hv : Valid n acts) (hT : IsTab n acts rows) (q : ∀ H', But b H H' → Box H' b k0 → Q (.bl true) H') :
    t_sr2 T (rtE Q) [some (.ref b), some v, some (.int turn), y3, some (.ref p), some sm, y6] H' := by
  unfold t_sr2
  obtain ⟨r, hr⟩ := hv.rank
  have hvR := valid_red hv hT
  have hTR : IsTab n (redR n rows) rows := hT.red hr
  have hlr := hvR.good.most
  refine for_def <| src_ok T (i := 5) (n := n) (c1 := 2) (c2 := 8) rfl hb rfl h.plan rfl h.small hlr (by omega) fun H1 o fs s1 b1 eo hlt => ?_
  have kt := hb.keep s1
  have h1 : SRt K H1 n acts rows v sm p ps := ⟨h.plan.keep kt (flat_eP _ _), h.tab.but s1 n1 n2, h.small.keep kt (flat_eP _ _)⟩
  refine for_it (walk_list (K := K) (a := o) (xs := nats fs)) (fun i σ H' => ∃ (y3 y6 : Option V), σ = [some (.ref b), some v, some (.int turn), y3, some (.ref p), some sm, y6] ∧ Same H1 H' ∧ SRt K H' n acts rows v sm p ps)
    ⟨y3, y6, rfl, .refl _, h1⟩ (fun i σ H' _ z => by obtain ⟨_, _, _, z, _⟩ := z; exact .of (z _ _ eo)) ?_ ?_
  · rintro i x σ H2 H3 hi ⟨y3, y6, rfl, s2, h2⟩ ⟨rfl, ex⟩
    rw [nats_len] at hi
    obtain ⟨e, he⟩ : ∃ e, fs[i]? = some e := ⟨_, List.getElem?_eq_getElem hi⟩
    cases (nats_get he).symm.trans ex
    have hel := hlt e (List.mem_of_getElem? he)
    have sub : ∀ x ∈ (redR n rows).eraseIdx e, x ∈ redR n rows := fun x hm => List.mem_of_mem_eraseIdx hm
    have lel : ((redR n rows).eraseIdx e).length ≤ (redR n rows).length := List.length_eraseIdx_le ..
    have hgl := hvR.good.sub sub lel
    have hrl := ranked_sub hvR.rank sub
    have hTl := tabC_is (n := n) hrl
    generalize tabC n ((redR n rows).eraseIdx e) = rl at hTl
    have hne : rl ≠ rows := fun z => by
      subst z
      exact hT.red_less hr (List.getElem_mem hel) sub (not_erased (red_nodup n rl) hel) hTl
    walk_at "n"
    refine ⟨_, rfl, _, rfl, sm, n, redR n rows, e, rfl, h2.small, hlr, hel, fun H4 ls s4 dl => ?_⟩
    obtain ⟨p6, w6, rfl, hp6, hw6⟩ := eP_inv dl
    refine ⟨_, rfl, p6, _, 0, _, rfl, rfl, hp6, atI_nat (j := 0) rfl, _, rfl, p6, _, 1, _, rfl, rfl, hp6, atI_nat (j := 1) rfl, ?_⟩
    refine ⟨n, w6, _, rfl, hw6, hgl, hrl, fun H5 q2 qs2 rl' s5 hR2 _ _ hT2 => ?_⟩
    cases hT2.uniq hTl
    have h5 := (h2.same s4).same s5
    refine ⟨_, rfl, eq_rows hR2 h5.tab ⟨_, rfl, ?_⟩⟩
    rw [decide_eq_false hne]
    refine iteF ⟨_, rfl, _, rfl, by show 2 ≤ sizeLine; decide, fun a na => ⟨_, rfl, ?_⟩⟩
    have sa := same_upd (o := .lst [sm, .int (e : Nat)]) na
    refine ask_spare T (E := E0) (k := e) (.of upd_same) (h5.same sa).small hvR hel hTl hTR fun H6 p6 u6 s6 e6 d6 => ⟨by show 2 ≤ sizeLine; decide, fun g ng => ?_⟩
    have sg := same_upd (o := .lst [.str "told", .bl false]) ng
    subst d6
    rw [decide_eq_false hne] at e6
    refine same_word T (E := E0) (d := .bool false) (sg _ _ e6) upd_same (.bl _) (.bl _) (by decide) trivial fun H7 s7 => ⟨_, rfl, iteF ?_⟩
    have sall := (((s4.trans s5).trans sa).trans (s6.trans sg)).trans s7
    exact ⟨_, _, rfl, s2.trans sall, h2.same sall⟩
  · rintro σ H2 ⟨y3, y6, rfl, s2, h2⟩
    exact q H2 ((bt.trans s1).tr s2) ((b1.same s2).mono (by omega))
theorem sr1 {b : Addr} {n k0 k : Nat} {acts : List Acty} {rows : List (List (Option Int))} {v sm : V} {p : Addr} {ps : List Addr} {turn : Int} {y3 y6 : Option V} {H' : Hp} (bt : But b H H') (hb : Box H' b k) (hk : k + 400 ≤ k0) (hk0 : k0 ≤ lim)
    (h : SRt K H' n acts rows v sm p ps) (n1 : p ≠ b) (n2 : ∀ x ∈ ps, x ≠ b) (hv : Valid n acts) (hT : IsTab n acts rows) (q : ∀ H', But b H H' → Box H' b k0 → Q (.bl true) H') :
    t_sr1 T (rtE Q) [some (.ref b), some v, some (.int turn), y3, some (.ref p), some sm, y6] H' := by
  unfold t_sr1
  have hla := hv.good.most
  refine for_def <| src_ok T (i := 1) (n := n) (c1 := 3) (c2 := 8) rfl hb rfl h.plan rfl h.plan hla (by omega) fun H1 o fs s1 b1 eo hlt => ?_
  have kt := hb.keep s1
  have h1 : SRt K H1 n acts rows v sm p ps := ⟨h.plan.keep kt (flat_eP _ _), h.tab.but s1 n1 n2, h.small.keep kt (flat_eP _ _)⟩
  refine for_it (walk_list (K := K) (a := o) (xs := nats fs)) (fun i σ H' => ∃ (t : Int) (y3 y6 : Option V), σ = [some (.ref b), some v, some (.int t), y3, some (.ref p), some sm, y6] ∧ Same H1 H' ∧ SRt K H' n acts rows v sm p ps)
    ⟨turn, y3, y6, rfl, .refl _, h1⟩ (fun i σ H' _ z => by obtain ⟨_, _, _, _, z, _⟩ := z; exact .of (z _ _ eo)) ?_ ?_
  · rintro i x σ H2 H3 hi ⟨t, y3, y6, rfl, s2, h2⟩ ⟨rfl, ex⟩
    rw [nats_len] at hi
    obtain ⟨e, he⟩ : ∃ e, fs[i]? = some e := ⟨_, List.getElem?_eq_getElem hi⟩
    cases (nats_get he).symm.trans ex
    have hel := hlt e (List.mem_of_getElem? he)
    have sub : ∀ x ∈ acts.eraseIdx e, x ∈ acts := fun x hm => List.mem_of_mem_eraseIdx hm
    have lel : (acts.eraseIdx e).length ≤ acts.length := List.length_eraseIdx_le ..
    have hgl := hv.good.sub sub lel
    have hrl := ranked_sub hv.rank sub
    have hTl := tabC_is (n := n) hrl
    generalize tabC n (acts.eraseIdx e) = rl at hTl
    walk_at "n"
    refine ⟨_, rfl, _, rfl, v, n, acts, e, rfl, h2.plan, hla, hel, fun H4 ls s4 dl => ?_⟩
    have h4 := h2.same s4
    refine ⟨_, rfl, _, rfl, by show 2 ≤ sizeLine; decide, fun a na => ⟨_, rfl, ?_⟩⟩
    have sa := same_upd (o := .lst [v, .int (e : Nat)]) na
    refine ask_spare T (E := E0) (k := e) (.of upd_same) (h4.same sa).plan hv hel hTl hT fun H6 p6 u6 s6 e6 d6 => ?_
    obtain ⟨p7, w7, rfl, hp7, hw7⟩ := eP_inv ((dl.same sa).same s6)
    refine ⟨_, rfl, p7, _, 0, _, rfl, rfl, hp7, atI_nat (j := 0) rfl, _, rfl, p7, _, 1, _, rfl, rfl, hp7, atI_nat (j := 1) rfl, ?_⟩
    refine ⟨n, w7, _, rfl, hw7, hgl, hrl, fun H7 q2 qs2 rl' s7 hR2 _ _ hT2 => ?_⟩
    cases hT2.uniq hTl
    have h7 := ((h4.same sa).same s6).same s7
    refine ⟨_, rfl, eq_rows hR2 h7.tab ⟨by show 2 ≤ sizeLine; decide, fun g ng => ?_⟩⟩
    have sg := same_upd (o := .lst [.str "told", .bl (decide (rl = rows))]) ng
    subst d6
    refine same_word T (E := E0) (d := .bool (decide (rl = rows))) (sg _ _ (s7 _ _ e6)) upd_same (.bl _) (.bl _) (by decide) trivial fun H8 s8 => ⟨_, rfl, iteF ⟨_, rfl, _, _, rfl, rfl, ?_⟩⟩
    have sall := ((((s4.trans sa).trans s6).trans s7).trans sg).trans s8
    exact ⟨_, _, _, rfl, s2.trans sall, h2.same sall⟩
  · rintro σ H2 ⟨t, y3, y6, rfl, s2, h2⟩
    exact sr2 T ((bt.trans s1).tr s2) (b1.same s2) (by omega) hk0 h2 n1 n2 hv hT q
theorem rd_law_spare_right (h : sp_law_spare_right T vs H Q E) : t_law_spare_right T (rtE Q) (start N_law_spare_right vs) H := by
  rw [sr_short]; walk_at "n"
  obtain ⟨b, v, n, acts, turn, k, rfl, hd, hv, hb, hk, q⟩ := h
  have hlim : lim = 1000000 := rfl
  obtain ⟨pp, wa, rfl, hp, hw⟩ := eP_inv hd
  refine ⟨_, rfl, pp, _, 0, _, rfl, rfl, hp, atI_nat (j := 0) rfl, _, rfl, pp, _, 1, _, rfl, rfl, hp, atI_nat (j := 1) rfl, ?_⟩
  refine ⟨n, wa, acts, rfl, hw, hv.good, hv.rank, fun H1 p ps rows s1 hR np nps hT => ?_⟩
  refine ⟨_, rfl, _, n, acts, rfl, hd.same s1, hv, fun H2 sm rows' s2 hT' dsm => ⟨_, _, rfl, ?_⟩⟩
  cases hT'.uniq hT
  have s12 := s1.trans s2
  exact sr1 T (k := k) (k0 := k + 1000) (.of s12) (hb.same s12) (by omega) (by omega) ⟨hd.same s12, hR.same s2, dsm⟩ (hb.ne np) (fun x hx => hb.ne (nps x hx)) hv hT q
end
end A69
end

section
set_option maxRecDepth 100000
set_option maxHeartbeats 2000000
/-! LRs: readings of the law: what is refused. -/
namespace A69
open PySem PySem.Spec PyProof.Rows L2 KX MP
local macro_rules | `(tactic| walk_at "n") => `(tactic| dsimp only [rtE, tRet, tAndV, tOrV, tNotV, tCB, tCons, tNil, tVar, tC, tOp, tUn, tChain, tTest, tB, tAnd, tOr, tNot, tIf, tIfS, tSeq, tAsg, tDrop, tNext, gName, tPar, tPar3, tTup, tLst, tCall, tBM, tBM0, tSl, tPart, tNoPart, gTup, gCons, gNil, gSub, iRng1, iRng2, iList, iTup, iEnumT, iRgV, tYes, tLstRg, tRg1])

def tb_odd (K : PySem.W.Frag) : TE := (tLst (tCons (tUn rNeg (tC (.int 1))) (tCons (tCB (rLenSeq K) (tCons (tOp (rIxT K) (tVar 1) (tC (.int 1))) tNil)) (tCons (tC (.bl true)) (tCons (tC .non) (tCons (tC (.str "0")) (tCons (tTup (tCons (tC (.int 0)) tNil)) (tCons (tLst (tCons (tC (.int 0)) tNil)) (tCons (tOp rPow (tC (.int 10)) (tC (.int 39))) (tCons (tC (.bl false)) (tCons (tLst (tCons (tLst (tCons (tC (.int 0)) tNil)) tNil)) tNil)))))))))))
def t_rf_tail3 {mg : Str → Option Value} {K : PySem.W.Frag} (T : TX K mg) : TS := (tSeq (tIfS (tOr (tTest (tOp rNe (tOp (rIxL K) (tVar 7) (tC (.int 0))) (tOp (rIxL K) (tLst (tCons (tC (.str "plan")) (tCons (tC (.str "activity")) tNil))) (tOp rDivW (tVar 3) (tC (.int 3)))))) (tNot (tB (tCall (sp_same T 7) [] E0 (tCons (tOp (rIxL K) (tVar 7) (tC (.int 1))) (tCons (tVar 8) tNil)))))) (tRet (tC (.bl false))) tNext)
  (tAsg (tOp rSubI (tC (.int 1)) (tVar 2)) (gName 2)))
def t_rf_tail2 {mg : Str → Option Value} {K : PySem.W.Frag} (T : TX K mg) : TS := (tSeq (tAsg (tOp (rIxL K) (tVar 6) (tOp rDivW (tVar 3) (tC (.int 3)))) (gName 8))
  (tSeq (tIfS (tB (tCB (rIsi K) (tCons (tVar 8) (tCons (tC (.ty "list")) tNil)))) (tDrop (tBM K "list" rAppend (tVar 8) (tCons (tUn rNeg (tC (.int 5))) tNil))) tNext)
  (t_rf_tail3 T)))
def t_rf_tail {mg : Str → Option Value} {K : PySem.W.Frag} (T : TX K mg) : TS := (tSeq (tAsg (tCall (sp_law_asked T) [] E0 (tCons (tCB rMin2 (tCons (tC (.int 2)) (tCons (tVar 3) tNil))) (tCons (tVar 6) (tCons (tVar 2) tNil)))) (gName 7))
  (t_rf_tail2 T))
def t_rf_mid {mg : Str → Option Value} {K : PySem.W.Frag} (T : TX K mg) : TS := (tSeq (tAsg (tLst (tCons (tIf (tTest (tOp rEq (tVar 3) (tC (.int 3)))) (tVar 1) (tCall (sp_law_bad_plan T) [] E0 (tCons (tVar 0) (tCons (tVar 1) tNil)))) (tCons (tVar 5) tNil))) (gName 6))
  (t_rf_tail T))
def oddD (L : Nat) : List PyData := [.int (-1), .int L, .bool true, .none, .str "0", .tuple [.int 0], .list [.int 0], .int (10 ^ 39), .bool false, .list [.list [.int 0]]]
theorem mk_len {K : PySem.W.Frag} {H0 : Hp} {σ : L2.St} {b : Addr} {i n : Nat} {v : V} {acts : List Acty} (e : σ[i]? = some (some v)) (h : Dp K H0 v (eP n acts)) : Mk K b H0 σ (tCB (rLenSeq K) (tCons (tOp (rIxT K) (tVar i) (tC (.int 1))) tNil)) (.int (acts.length : Nat)) := fun H1 s Q q => by
  obtain ⟨p9, w9, rfl, hp9, hw9⟩ := eP_inv (h.same s)
  obtain ⟨wp, xs, rfl, hsx, hdx⟩ := hw9.tup_inv
  have hlx : xs.length = acts.length := by rw [hdx.length, List.length_map]
  refine ⟨_, e, p9, _, 1, _, rfl, rfl, hp9, atI_nat (j := 1) rfl, wp, xs, rfl, .inr hsx, ?_⟩
  rw [hlx]
  exact q H1 _ (Same.refl _) ⟨.int _, fun e => nomatch e⟩
theorem mk_pow {K : PySem.W.Frag} {H0 : Hp} {σ : L2.St} {b : Addr} : Mk K b H0 σ (tOp rPow (tC (.int 10)) (tC (.int 39))) (.int (10 ^ 39)) := fun H1 s Q q =>
  ⟨_, _, rfl, rfl, ⟨by decide, by decide, by decide⟩, q H1 _ (Same.refl _) ⟨.int _, fun e => nomatch e⟩⟩
theorem mk_odd {K : PySem.W.Frag} {H0 : Hp} {σ : L2.St} {b : Addr} {n : Nat} {v : V} {acts : List Acty} {ob : HO} (hb : H0 b = some ob) (e : σ[1]? = some (some v)) (h : Dp K H0 v (eP n acts)) : MkL K b H0 σ (tb_odd K) (oddD acts.length) := by
  unfold tb_odd oddD
  refine mkl hb ?_ (by simp)
  repeat' (first | exact mk_nil | refine mk_cons ?_ ?_ | exact mk_int | exact mk_non | exact mk_bl | exact mk_str | exact mk_neg | exact mk_len e h | exact mk_pow | refine mk_tup hb ?_ (by simp) | refine mk_lst hb ?_ (by simp))
theorem odd_not {L : Nat} (hL : L ≤ 120) : ∀ d ∈ oddD L, isIndex L d = false := by
  intro d hd
  simp only [oddD, List.mem_cons, List.not_mem_nil, or_false] at hd
  rcases hd with rfl | rfl | rfl | rfl | rfl | rfl | rfl | rfl | rfl | rfl <;> simp [isIndex]
  omega
theorem odd_small {L : Nat} : ∀ d ∈ oddD L, Small 6 d := by
  intro d hd
  have c0 : ("0" : Str).length ≤ 1000 := by decide
  simp only [oddD, List.mem_cons, List.not_mem_nil, or_false] at hd
  rcases hd with rfl | rfl | rfl | rfl | rfl | rfl | rfl | rfl | rfl | rfl <;> simp [Small, c0]
theorem odd_lst {L : Nat} : ∀ d ∈ oddD L, isLst d = true → d = .list [.int 0] ∨ d = .list [.list [.int 0]] := by
  intro d hd hl
  simp only [oddD, List.mem_cons, List.not_mem_nil, or_false] at hd
  rcases hd with rfl | rfl | rfl | rfl | rfl | rfl | rfl | rfl | rfl | rfl <;> first | (left; rfl) | (right; rfl) | cases hl
theorem MkV.but {K : PySem.W.Frag} {H0 H H' : Hp} {b : Addr} {v : V} {d : PyData} {ob : HO} (h : MkV K b H0 H v d) (hb : H0 b = some ob) (s : But b H H') : MkV K b H0 H' v d := by
  have sd : Same (del H b) (del H' b) := fun a o e => by
    by_cases z : a = b
    · rw [z, del_same] at e; cases e
    · rw [del_ne z] at e ⊢; exact s _ _ z e
  refine ⟨h.1.same sd, fun e => ?_⟩
  obtain ⟨a, xs, ds, e1, e4, e2, e3, e5⟩ := h.2 e
  have : a ≠ b := fun z => by rw [z, hb] at e2; cases e2
  exact ⟨a, xs, ds, e1, e4, e2, s _ _ this e3, e5.same fun c o e => by
    by_cases z : c = b
    · rw [z, del_same] at e; cases e
    · rw [del_ne z] at e ⊢
      by_cases z2 : c = a
      · rw [z2, del_same] at e; cases e
      · rw [del_ne z2] at e ⊢; exact s _ _ z e⟩
/-- what is asked for, and may grow -/
def Thing (K : PySem.W.Frag) (H0 H : Hp) (w : V) (d : PyData) : Prop := Dp K H w d ∧ Small 6 d ∧ (isLst d = true → ∃ a xs ds, w = .ref a ∧ d = .list ds ∧ H0 a = none ∧ H a = some (.lst xs) ∧ xs.length ≤ 1000 ∧ (∀ s u, xs ≠ [.str s, u]) ∧ ∀ H2 o, Same H H2 → DpAll K (upd H2 a o) xs ds)
theorem Thing.same {K : PySem.W.Frag} {H0 H H' : Hp} {w : V} {d : PyData} (h : Thing K H0 H w d) (s : Same H H') : Thing K H0 H' w d := ⟨h.1.same s, h.2.1, fun e => by
  obtain ⟨a, xs, ds, e1, e2, e3, e4, e5, e7, e6⟩ := h.2.2 e
  exact ⟨a, xs, ds, e1, e2, e3, s _ _ e4, e5, e7, fun H2 o s2 => e6 H2 o (s.trans s2)⟩⟩
def RfInv (K : PySem.W.Frag) (H : Hp) (b o : Addr) (v : V) (k i : Nat) (σ : L2.St) (H' : Hp) : Prop :=
  ∃ (t : Int) (y3 y4 y5 y6 y7 y8 : Option V), σ = [some (.ref b), some v, some (.int t), y3, y4, y5, y6, y7, y8] ∧ But b H H' ∧ Box H' b (k + 20 * i) ∧ H' o = some (.lst (nats [0, 1, 2, 3]))
section
variable {K : PySem.W.Frag} {mg : Str → Option Value} (T : TX K mg) {vs : List V} {H : Hp} {Q : VK} {E : XK}

theorem rf_short : t_law_refused_right T = (tSeq (tFor (iList K (tLst (tCons (tC (.int 0)) (tCons (tC (.int 1)) (tCons (tC (.int 2)) (tCons (tC (.int 3)) tNil)))))) (gName 3) (tSeq (tAsg (tb_odd K) (gName 4))
  (tSeq (tAsg (tIf (tOr (tTest (tOp rEq (tVar 3) (tC (.int 3)))) (tTest (tOp rEq (tCall (sp_law_take T) [] E0 (tCons (tVar 0) (tCons (tC (.int 2)) tNil))) (tC (.int 0))))) (tOp (rIxL K) (tVar 4) (tCall (sp_law_take T) [] E0 (tCons (tVar 0) (tCons (tC (.int 10)) tNil)))) (tC (.int 0))) (gName 5))
  (t_rf_mid T))))
  (tRet (tC (.bl true)))) := rfl
theorem word_at {e : Nat} (he : e ≤ 3) : ([V.str "plan", .str "activity"])[e / 3]? = some (.str (if e < 3 then "plan" else "activity")) := by
  have : e = 0 ∨ e = 1 ∨ e = 2 ∨ e = 3 := by omega
  rcases this with rfl | rfl | rfl | rfl <;> rfl
theorem div3 (e : Nat) : ((e : Int) / 3) = ((e / 3 : Nat) : Int) := by omega
/-- both are the same -/
theorem rf_tail3 {D : Ends} {p3 : Addr} {w : V} {d : PyData} {e : Nat} {H4 : Hp} {t : Int} {y0 y1 y4 y5 y6 : Option V} (he : e ≤ 3) (ep : H4 p3 = some (.lst [.str (if e < 3 then "plan" else "activity"), w])) (hd : Dp K H4 w d) (hs : Small 7 d)
    (nx : ∀ H6, Same H4 H6 → D.nx [y0, y1, some (.int (1 - t)), some (.int (e : Nat)), y4, y5, y6, some (.ref p3), some w] H6) :
    t_rf_tail3 T D [y0, y1, some (.int t), some (.int (e : Nat)), y4, y5, y6, some (.ref p3), some w] H4 := by
  unfold t_rf_tail3; walk_at "n"
  refine ⟨_, rfl, p3, _, _, _, rfl, rfl, .of ep, atI_nat (j := 0) rfl, by show 2 ≤ sizeLine; decide, fun r nr => ⟨_, rfl, _, _, rfl, rfl, ⟨by decide, by decide⟩, ?_⟩⟩
  have sr := same_upd (o := .lst [.str "plan", .str "activity"]) nr
  refine ⟨r, _, _, _, rfl, congrArg V.int (div3 e), .of upd_same, atI_nat (word_at he), rfl, _, rfl, ?_⟩
  rw [decide_eq_true rfl]
  refine iteF ⟨_, rfl, p3, _, _, _, rfl, rfl, .of (sr _ _ ep), atI_nat (j := 1) rfl, _, rfl, ?_⟩
  exact ⟨w, w, d, rfl, hd.same sr, hd.same sr, hs, fun H6 s6 => ⟨_, rfl, iteF ⟨_, rfl, _, _, rfl, rfl, nx H6 (sr.trans s6)⟩⟩⟩
/-- the thing grows -/
theorem rf_tail2 {D : Ends} {b o g p3 : Addr} {v w w0 y : V} {d : PyData} {e k i : Nat} {Ht H3 : Hp} {t : Int} {y4 y5 y8 : Option V} (bt : But b H H3) (hb : Box H3 b (k + 20 * (i + 1))) (ho : H3 o = some (.lst (nats [0, 1, 2, 3]))) (hot : Ht o ≠ none) (hHt : ∀ a, Ht a = none → H a = none) (hHb : Ht b ≠ none) (he : e ≤ 3)
    (eg : H3 g = some (.lst [w0, y])) (ew : [w0, y][e / 3]? = some w) (ep : H3 p3 = some (.lst [.str (if e < 3 then "plan" else "activity"), w])) (ht : Thing K Ht H3 w d)
    (nx : ∀ σ H2, RfInv K H b o v k (i + 1) σ H2 → D.nx σ H2) :
    t_rf_tail2 T D [some (.ref b), some v, some (.int t), some (.int (e : Nat)), y4, y5, some (.ref g), some (.ref p3), y8] H3 := by
  unfold t_rf_tail2; walk_at "n"
  obtain ⟨hd, hs, hg⟩ := ht
  have up : ∀ {m : Nat} {x : PyData}, Small m x → Small (m + 1) x := by
    intro m
    induction m with
    | zero => intro x h; exact h.elim
    | succ m ih =>
      intro x h
      cases x with
      | list ds => exact ⟨h.1, fun z hz => ih (h.2 z hz)⟩
      | tuple ds => exact ⟨h.1, fun z hz => ih (h.2 z hz)⟩
      | str z => exact h
      | _ => exact trivial
  refine ⟨_, rfl, _, rfl, _, _, rfl, rfl, ⟨by decide, by decide⟩, g, _, _, w, rfl, congrArg V.int (div3 e), .of eg, atI_nat ew, _, rfl, isi_list hd ⟨_, rfl, ?_⟩⟩
  cases hl : isLst d with
  | false =>
    refine iteF (rf_tail3 T he ep hd (up hs) fun H6 s6 => nx _ _ ⟨1 - t, _, _, _, _, _, _, rfl, bt.tr s6, hb.same s6, s6 _ _ ho⟩)
  | true =>
    obtain ⟨a, xs, ds, rfl, rfl, na, ea, hlx, hns, hda⟩ := hg hl
    have hab : a ≠ b := fun z => hHb (z ▸ na)
    have hao : a ≠ o := fun z => hot (z ▸ na)
    have hap : p3 ≠ a := fun z => by rw [z, ea] at ep; injection ep with ep; injection ep with ep; exact hns _ _ ep
    refine iteT ⟨_, rfl, .inl ⟨rfl, _, .inl (.inl ea)⟩, _, rfl, a, xs, _, rfl, rfl, ea, small_line (by omega), ?_⟩
    have d2 : Dp K (upd H3 a (.lst (xs ++ [.int (-5)]))) (.ref a) (.list (ds ++ [.int (-5)])) := .lst (.of upd_same) ((hda H3 _ (.refl _)).append (.cons (.int _) .nil))
    have s7 : Small 7 (.list (ds ++ [.int (-5)])) := by
      have hs' : ds.length ≤ 100000 ∧ ∀ x ∈ ds, Small 5 x := hs
      have hlen := (hda H3 (.lst []) (.refl _)).length
      refine small_lc (by rw [List.length_append, List.length_singleton]; omega) fun x hx => ?_
      rcases List.mem_append.mp hx with z | z
      · exact up (hs'.2 x z)
      · rw [List.mem_singleton] at z; rw [z]; exact trivial
    refine rf_tail3 T he (by rw [upd_ne hap]; exact ep) d2 s7 fun H6 s6 => nx _ _ ⟨1 - t, _, _, _, _, _, _, rfl, (bt.upd_free (hHt a na)).tr s6, (hb.upd_ne hab).same s6, s6 _ _ ?_⟩
    rw [upd_ne (Ne.symm hao)]; exact ho
/-- behind the question -/
theorem rf_tail {D : Ends} {b o g : Addr} {v w0 y : V} {d0 x : PyData} {n : Nat} {acts : List Acty} {e k i : Nat} {Ht Hb : Hp} {t : Int} {y4 y5 y7 y8 : Option V} (bt : But b H Hb) (hb : Box Hb b (k + 20 * (i + 1))) (ho : Hb o = some (.lst (nats [0, 1, 2, 3]))) (hot : Ht o ≠ none) (hHt : ∀ a, Ht a = none → H a = none) (hHb : Ht b ≠ none) (he : e ≤ 3) (ng : Hb g = none)
    (h0 : Dp K Hb w0 d0) (hx : Dp K Hb y x) (h1 : e < 3 → ¬ IsPlan d0 ∧ Thing K Ht Hb w0 d0) (h3 : e = 3 → d0 = eP n acts ∧ Valid n acts ∧ isIndex acts.length x = false ∧ Thing K Ht Hb y x)
    (nx : ∀ σ H2, RfInv K H b o v k (i + 1) σ H2 → D.nx σ H2) :
    t_rf_tail T D [some (.ref b), some v, some (.int t), some (.int (e : Nat)), y4, y5, some (.ref g), y7, y8] (upd Hb g (.lst [w0, y])) := by
  unfold t_rf_tail; walk_at "n"
  have sg := same_upd (o := .lst [w0, y]) ng
  generalize hH' : upd Hb g (.lst [w0, y]) = H' at *
  have eg : H' g = some (.lst [w0, y]) := by rw [← hH']; exact upd_same
  refine ⟨_, rfl, _, _, rfl, _, rfl, _, rfl, ?_⟩
  have fin : ∀ (w : V) (d : PyData), [w0, y][e / 3]? = some w → Thing K Ht Hb w d → ∀ H3 p3, Same H' H3 → H3 p3 = some (.lst [.str (if e < 3 then "plan" else "activity"), w]) →
      t_rf_tail2 T D [some (.ref b), some v, some (.int t), some (.int (e : Nat)), y4, y5, some (.ref g), some (.ref p3), y8] H3 := fun w d ew ht H3 p3 s3 e3 =>
    rf_tail2 T (bt.tr (sg.trans s3)) (hb.same (sg.trans s3)) (s3 _ _ (sg _ _ ho)) hot hHt hHb he (s3 _ _ eg) ew e3 (ht.same (sg.trans s3)) nx
  have h03 : e = 0 ∨ e = 1 ∨ e = 2 ∨ e = 3 := by omega
  rcases h03 with rfl | rfl | rfl | rfl
  · obtain ⟨np, ht⟩ := h1 (by omega)
    exact ⟨0, t, g, _, w0, d0, rfl, .of eg, rfl, h0.same sg, fun _ H3 p3 u s3 e3 hu => fin w0 d0 rfl ht H3 p3 s3 (by rw [e3, hu]; rfl), .inl ⟨rfl, fun n' a' z hv => absurd ⟨n', a', z, hv⟩ np⟩⟩
  · obtain ⟨np, ht⟩ := h1 (by omega)
    exact ⟨1, t, g, _, w0, d0, rfl, .of eg, rfl, h0.same sg, fun _ H3 p3 u s3 e3 hu => fin w0 d0 rfl ht H3 p3 s3 (by rw [e3, hu]; rfl), .inr (.inl ⟨rfl, fun n' a' z hv => absurd ⟨n', a', z, hv⟩ np⟩)⟩
  · obtain ⟨np, ht⟩ := h1 (by omega)
    exact ⟨2, t, g, _, w0, d0, rfl, .of eg, rfl, h0.same sg, fun _ H3 p3 u s3 e3 hu => fin w0 d0 rfl ht H3 p3 s3 (by rw [e3, hu]; rfl), .inr (.inr ⟨rfl, y, x, rfl, hx.same sg, fun n' a' z hv => absurd ⟨n', a', z, hv⟩ np⟩)⟩
  · obtain ⟨rfl, hv, hix, ht⟩ := h3 rfl
    refine ⟨2, t, g, _, w0, _, rfl, .of eg, rfl, h0.same sg, fun z => absurd ⟨n, acts, rfl, hv⟩ z, .inr (.inr ⟨rfl, y, x, rfl, hx.same sg, fun n' a' z hv' => ?_⟩)⟩
    obtain ⟨z1, z2⟩ := eP_inj z
    subst z1 z2
    refine ⟨fun k' ek hk' => ?_, fun _ H3 p3 u s3 e3 hu => fin y x rfl ht H3 p3 s3 (by rw [e3, hu]; rfl)⟩
    subst ek
    simp [isIndex] at hix
    omega
theorem MkV.thing {Ht H1 : Hp} {b : Addr} {y : V} {x : PyData} (h : MkV K b Ht H1 y x) (hs : Small 6 x) (h1 : ∀ ds, x = .list ds → ds.length = 1) : Thing K Ht H1 y x := by
  refine ⟨h.1.same del_sub, hs, fun e => ?_⟩
  obtain ⟨a, xs, ds, e1, e2, e3, e4, e5⟩ := h.2 e
  have hl := e5.length
  have h2 := h1 ds e2
  refine ⟨a, xs, ds, e1, e2, e3, e4, by omega, fun s u z => ?_, fun H2 o s => e5.same fun c u e => ?_⟩
  · rw [z] at hl; simp at hl; omega
  · by_cases z : c = b
    · rw [z, del_same] at e; cases e
    · rw [del_ne z] at e
      by_cases z2 : c = a
      · rw [z2, del_same] at e; cases e
      · rw [del_ne z2] at e
        rw [upd_ne z2]; exact s _ _ e
theorem rf_mid {D : Ends} {b o : Addr} {v y : V} {x : PyData} {n : Nat} {acts : List Acty} {e k i : Nat} {Ht H1 : Hp} {t : Int} {y4 y6 y7 y8 : Option V} (bt : But b H H1) (bt2 : But b Ht H1) (hb : Box H1 b (k + 20 * i + 4)) (ho : H1 o = some (.lst (nats [0, 1, 2, 3]))) (hot : Ht o ≠ none) (hHt : ∀ a, Ht a = none → H a = none) (hHb : Ht b ≠ none) (hob : o ≠ b) (he : e ≤ 3) (hk : k + 20 * i + 20 ≤ lim)
    (hd : Dp K H1 v (eP n acts)) (hv : Valid n acts) (hy : MkV K b Ht H1 y x) (hx : x = .int 0 ∨ x ∈ oddD acts.length) (h3 : e = 3 → x ∈ oddD acts.length) (nx : ∀ σ H2, RfInv K H b o v k (i + 1) σ H2 → D.nx σ H2) :
    t_rf_mid T D [some (.ref b), some v, some (.int t), some (.int (e : Nat)), y4, some y, y6, y7, y8] H1 := by
  unfold t_rf_mid; walk_at "n"
  have hlim : lim = 1000000 := rfl
  have hm := hv.good.most
  have th : Thing K Ht H1 y x := hy.thing (by
      rcases hx with z | z
      · rw [z]; exact trivial
      · exact odd_small x z) (fun ds e => by
      rcases hx with z | z
      · rw [z] at e; cases e
      · rcases odd_lst x z (by rw [e]; rfl) with w | w <;> (rw [e] at w; injection w with w; rw [w]; rfl))
  obtain ⟨bo, hbo⟩ : ∃ bo, Ht b = some bo := by
    cases z : Ht b with
    | none => exact absurd z hHb
    | some bo => exact ⟨bo, rfl⟩
  refine ⟨_, rfl, rfl, _, rfl, ?_⟩
  by_cases h : e = 3
  · have z : decide (V.int (e : Nat) = V.int 3) = true := by rw [h]; rfl
    rw [z]
    refine iteT ⟨_, rfl, _, rfl, by show 2 ≤ sizeLine; decide, fun g ng => ?_⟩
    exact rf_tail T (n := n) (acts := acts) bt (hb.mono (by omega)) ho hot hHt hHb he ng hd th.1 (fun z => by omega) (fun _ => ⟨rfl, hv, odd_not hm x (h3 h), th⟩) nx
  · have z : decide (V.int (e : Nat) = V.int 3) = false := decide_eq_false fun z => by injection z with z; omega
    rw [z]
    refine iteF ⟨_, rfl, _, rfl, b, v, n, acts, _, rfl, hd, hv, hb, by omega, fun H2 w d s2 dw hn hs hg b2 => ⟨_, rfl, by show 2 ≤ sizeLine; decide, fun g ng => ?_⟩⟩
    have hy2 := hy.but hbo s2
    refine rf_tail T (n := n) (acts := acts) (bt.trans s2) (b2.mono (by omega)) (s2 _ _ hob ho) hot hHt hHb he ng dw (hy2.1.same del_sub) (fun _ => ⟨hn, dw, hs, fun e => ?_⟩) (fun z => absurd z h) nx
    obtain ⟨a, xs, ds, e1, e2, e3, e4, e5, e6, e7⟩ := hg e
    have hb1 : H1 b ≠ none := by obtain ⟨xs, e⟩ := hb.lst; rw [e]; exact fun z => by cases z
    have hab : a ≠ b := fun z => hb1 (z ▸ e3)
    exact ⟨a, xs, ds, e1, e2, bt2.free e3 hab, e4, e5, e6, e7⟩
theorem rd_law_refused_right (h : sp_law_refused_right T vs H Q E) : t_law_refused_right T (rtE Q) (start N_law_refused_right vs) H := by
  rw [rf_short]; walk_at "n"
  obtain ⟨b, v, n, acts, t0, k, rfl, hd, hv, hb, hk, q⟩ := h
  have hlim : lim = 1000000 := rfl
  refine ⟨by show 4 ≤ sizeLine; decide, fun o no => ⟨o, rfl, ⟨_, .of upd_same⟩, ?_⟩⟩
  have so := same_upd (o := .lst [.int 0, .int 1, .int 2, .int 3]) no
  have hob := hb.ne no
  refine for_it (walk_list (K := K) (a := o) (xs := nats [0, 1, 2, 3])) (RfInv K H b o v k) ⟨t0, _, _, _, _, _, _, rfl, .of so, (hb.same so).mono (by omega), upd_same⟩ (fun i σ H' _ z => by obtain ⟨_, _, _, _, _, _, _, _, _, _, z⟩ := z; exact .of z) ?_ ?_
  · rintro i x σ H9 H1 hi ⟨t, y3, y4, y5, y6, y7, y8, rfl, bt, bx, eo⟩ ⟨rfl, ex⟩
    obtain ⟨e, he⟩ : ∃ e, ([0, 1, 2, 3] : List Nat)[i]? = some e := ⟨_, List.getElem?_eq_getElem (show i < 4 from hi)⟩
    cases (nats_get he).symm.trans ex
    have he3 : e ≤ 3 := by
      have := List.mem_of_getElem? he
      simp only [List.mem_cons, List.not_mem_nil, or_false] at this
      omega
    have hi4 : i < 4 := hi
    have kt := hb.keep bt
    have hd1 := hd.keep kt (flat_eP _ _)
    obtain ⟨bo, ebo⟩ := bx.lst
    have hm := hv.good.most
    have hHt : ∀ a, H1 a = none → H a = none := fun a na => by
      by_cases z : a = b
      · rw [z, ebo] at na; cases na
      · exact bt.free na z
    walk_at "n"
    refine mk_odd (K := K) (n := n) (acts := acts) (v := v) ebo rfl hd1 H1 (.refl _) _ fun H2 p ps s2 np ep dps => ?_
    have bx2 := bx.same s2
    have hpb := bx.ne np
    have hl10 : ps.length = 10 := dps.length
    have nxx := fun (σ : L2.St) (H2 : Hp) (h : RfInv K H b o v k (i + 1) σ H2) => h
    have mid : ∀ (D : Ends), (∀ σ H2, RfInv K H b o v k (i + 1) σ H2 → D.nx σ H2) → ∀ H4 y x, But b H2 H4 → Box H4 b (k + 20 * i + 4) → MkV K b H1 H4 y x → (x = .int 0 ∨ x ∈ oddD acts.length) → (e = 3 → x ∈ oddD acts.length) →
        t_rf_mid T D [some (.ref b), some v, some (.int t), some (.int (e : Nat)), some (.ref p), some y, y6, y7, y8] H4 := by
      intro D nxx H4 y x s4 b4 hy hx h3
      have s14 := (But.of (b := b) s2).trans s4
      exact rf_mid T (bt.trans s14) s14 b4 (s14 _ _ hob eo) (by rw [eo]; exact fun z => nomatch z) hHt (by rw [ebo]; exact fun z => nomatch z) hob he3 (by omega) (hd1.keep (bx.keep s14) (flat_eP _ _)) hv hy hx h3 nxx
    have pick : ∀ (D : Ends), (∀ σ H2, RfInv K H b o v k (i + 1) σ H2 → D.nx σ H2) → ∀ H3 k3, But b H2 H3 → Box H3 b k3 → k3 ≤ k + 20 * i + 1 → sp_law_take T ([.ref b, .int 10] ++ []) H3 (fun y H2 => rIxL K (.ref p) y H2 fun x H1 => t_rf_mid T D [some (.ref b), some v, some (.int t), some (.int (e : Nat)), some (.ref p), some x, y6, y7, y8] H1) E0 := by
      intro D nxx H3 k3 s3 b3 hk3
      refine ⟨b, 10, k3, rfl, b3, by omega, by omega, by omega, fun H4 r s4 b4 hr => ?_⟩
      have hr' : r < (oddD acts.length).length := hr
      obtain ⟨y, ey, dy⟩ := dps.get (List.getElem?_eq_getElem hr')
      have s24 := s3.trans s4
      have hm2 : (oddD acts.length)[r] ∈ oddD acts.length := List.getElem_mem hr'
      exact ⟨p, ps, _, y, rfl, rfl, .of (s24 _ _ hpb ep), atI_nat ey, mid D nxx H4 y _ s24 (b4.mono (by omega)) (dy.but ebo s24) (.inr hm2) fun _ => hm2⟩
    refine ⟨_, rfl, rfl, _, rfl, ?_⟩
    by_cases h : e = 3
    · have z : decide (V.int (e : Nat) = V.int 3) = true := by rw [h]; rfl
      rw [z]
      exact iteT (iteT ⟨_, rfl, _, rfl, pick _ (fun _ _ h => h) H2 _ (.refl _ _) bx2 (by omega)⟩)
    · have z : decide (V.int (e : Nat) = V.int 3) = false := decide_eq_false fun z => by injection z with z; omega
      rw [z]
      refine iteF ⟨_, rfl, b, 2, _, rfl, bx2, by omega, by omega, by omega, fun H3 r3 s3 b3 h3 => ⟨rfl, _, rfl, ?_⟩⟩
      by_cases hz : decide (V.int (r3 : Nat) = V.int 0) = true
      · rw [hz]
        exact iteT ⟨_, rfl, _, rfl, pick _ (fun _ _ h => h) H3 _ s3 b3 (by omega)⟩
      · have hz' : decide (V.int (r3 : Nat) = V.int 0) = false := by simpa using hz
        rw [hz']
        exact iteF (mid _ (fun _ _ h => h) H3 (.int 0) (.int 0) s3 (b3.mono (by omega)) ⟨.int 0, fun e => nomatch e⟩ (.inl rfl) fun z => absurd z h)
  · rintro σ H1 ⟨t, y3, y4, y5, y6, y7, y8, rfl, bt, bx, eo⟩
    exact q H1 bt
end
end A69
end

section
set_option maxRecDepth 100000
set_option maxHeartbeats 2000000
/-! LRt: readings of the law: all of it. -/
namespace A69
open PySem PySem.Spec PyProof.Rows L2 KX MP
local macro_rules | `(tactic| walk_at "n") => `(tactic| dsimp only [rtE, tRet, tAndV, tOrV, tNotV, tCB, tCons, tNil, tVar, tC, tOp, tUn, tChain, tTest, tB, tAnd, tOr, tNot, tIf, tIfS, tSeq, tAsg, tDrop, tNext, gName, tPar, tPar3, tTup, tLst, tCall, tBM, tBM0, tSl, tPart, tNoPart, gTup, gCons, gNil, gSub, iRng1, iRng2, iList, iTup, iEnumT, iRgV, tYes, tLstRg, tRg1])

def t_lw3 {mg : Str → Option Value} {K : PySem.W.Frag} (T : TX K mg) : TS := (tSeq (tIfS (tOr (tNot (tB (tCall (sp_law_plan_right T) [] E0 (tCons (tVar 2) (tCons (tVar 6) (tCons (tVar 7) (tCons (tVar 5) tNil))))))) (tNot (tB (tCall (sp_law_spare_right T) [] E0 (tCons (tVar 2) (tCons (tVar 6) (tCons (tVar 5) tNil))))))) (tRet (tC (.bl false))) tNext)
  (tIfS (tNot (tB (tCall (sp_law_refused_right T) [] E0 (tCons (tVar 2) (tCons (tVar 7) (tCons (tVar 5) tNil)))))) (tRet (tC (.bl false))) tNext))
def t_lw2 {mg : Str → Option Value} {K : PySem.W.Frag} (T : TX K mg) : TS := (tSeq (tIfS (tTest (tOp rEq (tVar 8) (tC (.int 0)))) (tAsg (tCall (sp_law_even T) [] E0 (tCons (tVar 2) (tCons (tVar 6) tNil))) (gName 6)) tNext)
  (t_lw3 T))
def t_lw1 {mg : Str → Option Value} {K : PySem.W.Frag} (T : TX K mg) : TS := (tSeq (tPar3 6 7 8 (tCons (tOp (rIxL K) (tCall (sp_law_plan T) [] E0 (tCons (tVar 2) (tCons (tOp rEq (tVar 3) (tC (.int 0))) (tCons (tVar 4) tNil)))) (tC (.int 0))) (tCons (tOp (rIxL K) (tCall (sp_law_plan T) [] E0 (tCons (tVar 2) (tCons (tC (.bl false)) (tCons (tC (.bl false)) tNil)))) (tC (.int 0))) (tCons (tCall (sp_law_take T) [] E0 (tCons (tVar 2) (tCons (tC (.int 2)) tNil))) tNil))))
  (tSeq (tIfS (tAnd (tTest (tOp rEq (tVar 3) (tC (.int 0)))) (tTest (tOp rGtI (tCall (sp_law_take T) [] E0 (tCons (tVar 2) (tCons (tC (.int 2)) tNil))) (tC (.int 0))))) (tPar 6 8 (tCons (tCall (sp_law_line T) [] E0 (tCons (tVar 2) tNil)) (tCons (tC (.int 1)) tNil))) tNext)
  (t_lw2 T)))
theorem but_new {b : Addr} {H H' : Hp} (s : But b H H') (n : H b = none) : Same H H' := fun a o e => by
  have : a ≠ b := fun z => by rw [z, n] at e; cases e
  exact s a o this e
section
variable {K : PySem.W.Frag} {mg : Str → Option Value} (T : TX K mg) {vs : List V} {H : Hp} {Q : VK} {E : XK}

theorem lw_short : t_law T = (tSeq (tFor (iRng1 (tCons (tCB rMax2 (tCons (tC (.int 2)) (tCons (tCB rMin2 (tCons (tC (.int 4)) (tCons (tCB (rLenSeq K) (tCons (tVar 0) tNil)) tNil))) tNil))) tNil)) (gName 1) (tSeq (tAsg (tCall (sp_law_box T) [] E0 (tCons (tCall (sp_law_cell T) [] E0 (tCons (tVar 0) (tCons (tVar 1) tNil))) tNil)) (gName 2))
  (tSeq (tPar3 3 4 5 (tCons (tOp rAddI (tCall (sp_law_take T) [] E0 (tCons (tVar 2) (tCons (tC (.int 3)) tNil))) (tVar 1)) (tCons (tOp rEq (tCall (sp_law_take T) [] E0 (tCons (tVar 2) (tCons (tC (.int 8)) tNil))) (tC (.int 0))) (tCons (tCall (sp_law_take T) [] E0 (tCons (tVar 2) (tCons (tC (.int 2)) tNil))) tNil))))
  (t_lw1 T))))
  (tRet (tC (.bl true)))) := rfl
theorem lw3 {D : Ends} {b : Addr} {v w : V} {n m k : Nat} {acts bcts : List Acty} {Hs H1 : Hp} {t : Int} {y0 y1 y3 y4 y8 : Option V} (bt : But b Hs H1) (hn : Hs b = none) (hb : Box H1 b k) (hk : k ≤ 50000) (hd : Dp K H1 v (eP n acts)) (hv : Valid n acts) (hd2 : Dp K H1 w (eP m bcts)) (hv2 : Valid m bcts)
    (nx : ∀ H2, Same Hs H2 → D.nx [y0, y1, some (.ref b), y3, y4, some (.int t), some v, some w, y8] H2) : t_lw3 T D [y0, y1, some (.ref b), y3, y4, some (.int t), some v, some w, y8] H1 := by
  unfold t_lw3; walk_at "n"
  have hlim : lim = 1000000 := rfl
  refine ⟨_, rfl, _, rfl, _, rfl, _, rfl, b, v, w, n, m, acts, bcts, t, k, rfl, hd, hv, hd2, hv2, hb, by omega, fun H2 s2 b2 => ⟨_, rfl, iteF ?_⟩⟩
  have hd2' := hd2.keep (hb.keep s2) (flat_eP _ _)
  refine ⟨_, rfl, _, rfl, _, rfl, b, v, n, acts, t, k + 3, rfl, hd.keep (hb.keep s2) (flat_eP _ _), hv, b2, by omega, fun H3 s3 b3 => ⟨_, rfl, iteF ?_⟩⟩
  refine ⟨_, rfl, _, rfl, _, rfl, b, w, m, bcts, t, k + 3 + 1000, rfl, hd2'.keep (b2.keep s3) (flat_eP _ _), hv2, b3, by omega, fun H4 s4 => ⟨_, rfl, iteF ?_⟩⟩
  exact nx H4 (but_new (((bt.trans s2).trans s3).trans s4) hn)
theorem lw2 {D : Ends} {b : Addr} {v w : V} {n m k : Nat} {acts bcts : List Acty} {Hs H1 : Hp} {t way : Int} {y0 y1 y3 y4 : Option V} (bt : But b Hs H1) (hn : Hs b = none) (hb : Box H1 b k) (hk : k ≤ 40000) (hd : Dp K H1 v (eP n acts)) (hv : Valid n acts) (hd2 : Dp K H1 w (eP m bcts)) (hv2 : Valid m bcts)
    (nx : ∀ v y8 H2, Same Hs H2 → D.nx [y0, y1, some (.ref b), y3, y4, some (.int t), some v, some w, y8] H2) : t_lw2 T D [y0, y1, some (.ref b), y3, y4, some (.int t), some v, some w, some (.int way)] H1 := by
  unfold t_lw2; walk_at "n"
  have hlim : lim = 1000000 := rfl
  refine ⟨_, rfl, rfl, _, rfl, ?_⟩
  by_cases hz : decide (V.int way = V.int 0) = true
  · rw [hz]
    refine iteT ⟨_, rfl, _, rfl, b, v, n, acts, k, rfl, hd, hv, hb, by omega, fun H2 v2 acts2 s2 d2 hv' b2 => ?_⟩
    exact lw3 T (k := k + 100) (bt.trans s2) hn b2 (by omega) d2 hv' (hd2.keep (hb.keep s2) (flat_eP _ _)) hv2 (nx v2 _)
  · have hz' : decide (V.int way = V.int 0) = false := by simpa using hz
    rw [hz']
    exact iteF (lw3 T bt hn hb (by omega) hd hv hd2 hv2 (nx v _))
theorem lw1 {D : Ends} {b : Addr} {k : Nat} {Hs H1 : Hp} {t wide : Int} {great : Bool} {y0 y1 y6 y7 y8 : Option V} (bt : But b Hs H1) (hn : Hs b = none) (hb : Box H1 b k) (hk : k ≤ 100)
    (nx : ∀ v w y8 H2, Same Hs H2 → D.nx [y0, y1, some (.ref b), some (.int wide), some (.bl great), some (.int t), some v, some w, y8] H2) : t_lw1 T D [y0, y1, some (.ref b), some (.int wide), some (.bl great), some (.int t), y6, y7, y8] H1 := by
  unfold t_lw1; walk_at "n"
  have hlim : lim = 1000000 := rfl
  refine ⟨_, rfl, _, rfl, rfl, _, rfl, b, _, great, k, rfl, hb, by omega, fun H2 p v o n acts s2 np ep dv hv b2 => ?_⟩
  refine ⟨p, _, _, v, rfl, rfl, .of ep, atI_nat (j := 0) rfl, _, rfl, b, false, false, k + 10000, rfl, b2, by omega, fun H3 p2 w o2 m bcts s3 np2 ep2 dw hv2 b3 => ?_⟩
  refine ⟨p2, _, _, w, rfl, rfl, .of ep2, atI_nat (j := 0) rfl, _, rfl, b, 2, _, rfl, b3, by omega, by omega, by omega, fun H4 r s4 b4 hr => ⟨_, _, _, rfl, _, rfl, rfl, _, rfl, ?_⟩⟩
  have bt4 := ((bt.trans s2).trans s3).trans s4
  have dv4 := (dv.keep (b2.keep s3) (flat_eP _ _)).keep (b3.keep s4) (flat_eP _ _)
  have dw4 := dw.keep (b3.keep s4) (flat_eP _ _)
  by_cases hz : decide (V.int wide = V.int 0) = true
  · rw [hz]
    refine iteT ⟨_, rfl, b, 2, _, rfl, b4, by omega, by omega, by omega, fun H5 r5 s5 b5 h5 => ⟨_, _, rfl, rfl, _, rfl, ?_⟩⟩
    have dv5 := dv4.keep (b4.keep s5) (flat_eP _ _)
    have dw5 := dw4.keep (b4.keep s5) (flat_eP _ _)
    by_cases hg : (r5 : Int) > 0
    · rw [decide_eq_true hg]
      refine iteT ⟨_, rfl, b, _, rfl, b5, by omega, fun H6 v6 n6 acts6 s6 d6 hv6 b6 => ⟨_, _, rfl, ?_⟩⟩
      exact lw2 T (k := k + 10000 + 10000 + 1 + 1 + 100) ((bt4.trans s5).trans s6) hn b6 (by omega) d6 hv6 (dw5.keep (b5.keep s6) (flat_eP _ _)) hv2 fun v y8 => nx v w y8
    · rw [decide_eq_false hg]
      exact iteF (lw2 T (k := k + 10000 + 10000 + 1 + 1) (bt4.trans s5) hn b5 (by omega) dv5 hv dw5 hv2 fun v y8 => nx v w y8)
  · have hz' : decide (V.int wide = V.int 0) = false := by simpa using hz
    rw [hz']
    exact iteF (iteF (lw2 T (k := k + 10000 + 10000 + 1) bt4 hn b4 (by omega) dv4 hv dw4 hv2 fun v y8 => nx v w y8))
theorem rd_law (h : sp_law T vs H Q E) : t_law T (rtE Q) (start N_law vs) H := by
  rw [lw_short]; walk_at "n"
  obtain ⟨a, ns, rfl, hs, q⟩ := h
  have hlim : lim = 1000000 := rfl
  refine ⟨_, rfl, a, _, rfl, .inl hs, _, _, rfl, _, _, rfl, _, rfl, ?_, ?_, ?_⟩
  · split <;> (try split) <;> omega
  · split <;> (try split) <;> omega
  generalize hJ : (if (if ((ns.map V.int).length : Int) < 4 then ((ns.map V.int).length : Int) else 4) > 2 then (if ((ns.map V.int).length : Int) < 4 then ((ns.map V.int).length : Int) else 4) else 2) = J
  have hJ4 : J.toNat ≤ 4 := by
    rw [← hJ]
    split <;> (try split) <;> omega
  refine for_it walk_range (fun i σ H' => ∃ (y1 y2 y3 y4 y5 y6 y7 y8 : Option V), σ = [some (.ref a), y1, y2, y3, y4, y5, y6, y7, y8] ∧ Same H H')
    ⟨_, _, _, _, _, _, _, _, rfl, .refl _⟩ (fun _ _ _ _ _ => trivial) ?_ ?_
  · rintro i x σ H9 H1 hi ⟨y1, y2, y3, y4, y5, y6, y7, y8, rfl, s1⟩ ⟨rfl, rfl⟩
    walk_at "n"
    have ei : (0 : Int) + (i : Int) = ((i : Nat) : Int) := by omega
    rw [ei]
    refine ⟨_, rfl, _, rfl, a, ns, i, rfl, s1.seq hs, by omega, fun H2 c s2 => ⟨c, rfl, fun H3 b s3 nb b3 => ?_⟩⟩
    have s13 := s2.trans s3
    refine ⟨_, rfl, b, 3, 0, rfl, b3, by omega, by omega, by omega, fun H4 r4 s4 b4 h4 => ⟨_, rfl, _, _, rfl, rfl, ?_⟩⟩
    refine ⟨_, rfl, b, 8, _, rfl, b4, by omega, by omega, by omega, fun H5 r5 s5 b5 h5 => ⟨rfl, ?_⟩⟩
    refine ⟨_, rfl, b, 2, _, rfl, b5, by omega, by omega, by omega, fun H6 r6 s6 b6 h6 => ⟨_, _, _, rfl, ?_⟩⟩
    have nb1 : H1 b = none := s2.free nb
    refine lw1 T (k := 0 + 1 + 1 + 1) (Hs := H1) (((But.of s13).trans s4).trans (s5.trans s6)) nb1 b6 (by omega) fun v w y8 H7 s7 => ?_
    exact ⟨_, _, _, _, _, _, _, _, rfl, s1.trans s7⟩
  · rintro σ H1 ⟨y1, y2, y3, y4, y5, y6, y7, y8, rfl, s1⟩
    exact q H1
end
end A69
end

section
set_option maxRecDepth 100000
set_option maxHeartbeats 4000000
/-! OK69: each def keeps its promise. Printed by oks.py. -/
namespace A69
open PySem PySem.Spec PyProof.Rows L2 KX MP
section
variable {P : Program} {w : World} {K : PySem.W.Frag} {mg : Str → Option Value} {base : Heap}
theorem ok_init_InvalidPlan (T : TX K mg) : FnOk P w K mg base CX0 1 T.fi_InvalidPlan T.fdi_InvalidPlan ["self", "given"] (sp_init_InvalidPlan T) :=
  T.Fi_InvalidPlan.ok sc_init_InvalidPlan (fun vs H Q E h => by obtain ⟨_, _, rfl, _⟩ := h; rfl) fun cdv A outer s H vs Q E hr h =>
    ⟨_, pss_cons (ps_expr (pe_pinit T.p_PlanError (by rfl) (pa_cons (pv 0) (pa_cons pe_str pa_nil)))) (pss_one (ps_ost (pv 0) (pv 1))), rd_init T.o_InvalidPlan T.nf_InvalidPlan h⟩
theorem ok_init_InvalidActivity (T : TX K mg) : FnOk P w K mg base CX0 1 T.fi_InvalidActivity T.fdi_InvalidActivity ["self", "given"] (sp_init_InvalidActivity T) :=
  T.Fi_InvalidActivity.ok sc_init_InvalidActivity (fun vs H Q E h => by obtain ⟨_, _, rfl, _⟩ := h; rfl) fun cdv A outer s H vs Q E hr h =>
    ⟨_, pss_cons (ps_expr (pe_pinit T.p_PlanError (by rfl) (pa_cons (pv 0) (pa_cons pe_str pa_nil)))) (pss_one (ps_ost (pv 0) (pv 1))), rd_init T.o_InvalidActivity T.nf_InvalidActivity h⟩
theorem ok_init_TooMany (T : TX K mg) : FnOk P w K mg base CX0 1 T.fi_TooMany T.fdi_TooMany ["self", "count"] (sp_init_TooMany T) :=
  T.Fi_TooMany.ok sc_init_TooMany (fun vs H Q E h => by obtain ⟨_, _, rfl, _⟩ := h; rfl) fun cdv A outer s H vs Q E hr h =>
    ⟨_, pss_cons (ps_expr (pe_pinit T.p_PlanError (by rfl) (pa_cons (pv 0) (pa_cons pe_str pa_nil)))) (pss_one (ps_ost (pv 0) (pv 1))), rd_init T.o_TooMany T.nf_TooMany h⟩
theorem ok_is_integer (T : TX K mg) : FnOk P w K mg base CX0 (0 + 1) T.f_is_integer T.fd_is_integer ["value"] (sp_is_integer T) :=
  T.F_is_integer.ok sc_is_integer (fun vs H Q E h => by obtain ⟨_, _, rfl, _⟩ := h; rfl) fun cdv A outer s H vs Q E hr h => ⟨t_is_integer T, d_is_integer T hr, rd_is_integer T h⟩
theorem ok_is_count (T : TX K mg) : FnOk P w K mg base CX0 (1 + 1) T.f_is_count T.fd_is_count ["value"] (sp_is_count T) :=
  T.F_is_count.ok sc_is_count (fun vs H Q E h => by obtain ⟨_, _, rfl, _⟩ := h; rfl) fun cdv A outer s H vs Q E hr h => ⟨t_is_count T, d_is_count T (ok_is_integer T) hr, rd_is_count T h⟩
theorem ok_is_within (T : TX K mg) : FnOk P w K mg base CX0 (1 + 1) T.f_is_within T.fd_is_within ["value", "low", "high"] (sp_is_within T) :=
  T.F_is_within.ok sc_is_within (fun vs H Q E h => by obtain ⟨_, _, _, _, rfl, _⟩ := h; rfl) fun cdv A outer s H vs Q E hr h => ⟨t_is_within T, d_is_within T (ok_is_integer T) hr, rd_is_within T h⟩
theorem ok_is_index (T : TX K mg) : FnOk P w K mg base CX0 (1 + 1) T.f_is_index T.fd_is_index ["value", "many"] (sp_is_index T) :=
  T.F_is_index.ok sc_is_index (fun vs H Q E h => by obtain ⟨_, _, _, rfl, _⟩ := h; rfl) fun cdv A outer s H vs Q E hr h => ⟨t_is_index T, d_is_index T (ok_is_integer T) hr, rd_is_index T h⟩
theorem ok_is_tuple (T : TX K mg) : FnOk P w K mg base CX0 (0 + 1) T.f_is_tuple T.fd_is_tuple ["value", "many"] (sp_is_tuple T) :=
  T.F_is_tuple.ok sc_is_tuple (fun vs H Q E h => by obtain ⟨_, _, _, rfl, _⟩ := h; rfl) fun cdv A outer s H vs Q E hr h => ⟨t_is_tuple T, d_is_tuple T hr, rd_is_tuple T h⟩
theorem ok_in_order (T : TX K mg) : FnOk P w K mg base CX0 (0 + 1) T.f_in_order T.fd_in_order ["items"] (sp_in_order T) :=
  T.F_in_order.ok sc_in_order (fun vs H Q E h => by obtain ⟨_, _, rfl, _⟩ := h; rfl) fun cdv A outer s H vs Q E hr h => ⟨t_in_order T, d_in_order T hr, rd_in_order T h⟩
theorem ok_plus (T : TX K mg) : FnOk P w K mg base CX0 (0 + 1) T.f_plus T.fd_plus ["one", "other"] (sp_plus T) :=
  T.F_plus.ok sc_plus (fun vs H Q E h => by obtain ⟨_, _, rfl, _⟩ := h; rfl) fun cdv A outer s H vs Q E hr h => ⟨t_plus T, d_plus T hr, rd_plus T h⟩
theorem ok_is_later (T : TX K mg) : FnOk P w K mg base CX0 (0 + 1) T.f_is_later T.fd_is_later ["one", "other"] (sp_is_later T) :=
  T.F_is_later.ok sc_is_later (fun vs H Q E h => by obtain ⟨_, _, rfl, _⟩ := h; rfl) fun cdv A outer s H vs Q E hr h => ⟨t_is_later T, d_is_later T hr, rd_is_later T h⟩
theorem ok_is_activity (T : TX K mg) : FnOk P w K mg base CX0 (2 + 1) T.f_is_activity T.fd_is_activity ["many", "value"] (sp_is_activity T) :=
  T.F_is_activity.ok sc_is_activity (fun vs H Q E h => by obtain ⟨_, _, _, rfl, _⟩ := h; rfl) fun cdv A outer s H vs Q E hr h => ⟨t_is_activity T, d_is_activity T (ok_is_tuple T) (ok_is_index T) (ok_is_count T) hr, rd_is_activity T h⟩
theorem ok_are_activities (T : TX K mg) : FnOk P w K mg base CX0 (3 + 1) T.f_are_activities T.fd_are_activities ["many", "value"] (sp_are_activities T) :=
  T.F_are_activities.ok sc_are_activities (fun vs H Q E h => by obtain ⟨_, _, _, rfl, _⟩ := h; rfl) fun cdv A outer s H vs Q E hr h => ⟨t_are_activities T, d_are_activities T (ok_is_activity T) hr, rd_are_activities T h⟩
theorem ok_coming_to (T : TX K mg) : FnOk P w K mg base CX0 (0 + 1) T.f_coming_to T.fd_coming_to ["many", "activities"] (sp_coming_to T) :=
  T.F_coming_to.ok sc_coming_to (fun vs H Q E h => by obtain ⟨_, _, _, rfl, _⟩ := h; rfl) fun cdv A outer s H vs Q E hr h => ⟨t_coming_to T, d_coming_to T hr, rd_coming_to T h⟩
theorem ok_sorted_events (T : TX K mg) : FnOk P w K mg base CX0 (1 + 1) T.f_sorted_events T.fd_sorted_events ["many", "activities"] (sp_sorted_events T) :=
  T.F_sorted_events.ok sc_sorted_events (fun vs H Q E h => by obtain ⟨_, _, _, rfl, _⟩ := h; rfl) fun cdv A outer s H vs Q E hr h => ⟨t_sorted_events T, d_sorted_events T (ok_coming_to T) hr, rd_sorted_events T h⟩
theorem ok_has_ring (T : TX K mg) : FnOk P w K mg base CX0 (2 + 1) T.f_has_ring T.fd_has_ring ["many", "pairs"] (sp_has_ring T) :=
  T.F_has_ring.ok sc_has_ring (fun vs H Q E h => by obtain ⟨_, _, _, rfl, _⟩ := h; rfl) fun cdv A outer s H vs Q E hr h => ⟨t_has_ring T, d_has_ring T (ok_sorted_events T) hr, rd_has_ring T h⟩
theorem ok_is_plan (T : TX K mg) : FnOk P w K mg base CX0 (4 + 1) T.f_is_plan T.fd_is_plan ["value"] (sp_is_plan T) :=
  T.F_is_plan.ok sc_is_plan (fun vs H Q E h => by obtain ⟨_, _, rfl, _⟩ := h; rfl) fun cdv A outer s H vs Q E hr h => ⟨t_is_plan T, d_is_plan T (ok_is_tuple T) (ok_is_within T) (ok_are_activities T) (ok_in_order T) (ok_has_ring T) hr, rd_is_plan T h⟩
theorem ok_check_plan (T : TX K mg) : FnOk P w K mg base (L2.CX P w) (5 + 1) T.f_check_plan T.fd_check_plan ["plan"] (sp_check_plan T) :=
  T.F_check_plan.okX sc_check_plan (fun vs H Q E h => by obtain ⟨_, _, rfl, _⟩ := h; rfl) fun cdv A outer s H vs Q E hr h => ⟨t_check_plan T E, d_check_plan T (ok_is_plan T) (ok_init_InvalidPlan T) hr, rd_check_plan T h⟩
theorem ok_plan_of (T : TX K mg) : FnOk P w K mg base CX0 (0 + 1) T.f_plan_of T.fd_plan_of ["many", "activities"] (sp_plan_of T) :=
  T.F_plan_of.ok sc_plan_of (fun vs H Q E h => by obtain ⟨_, _, _, _, rfl, _⟩ := h; rfl) fun cdv A outer s H vs Q E hr h => ⟨t_plan_of T, d_plan_of T hr, rd_plan_of T h⟩
theorem ok_search (T : TX K mg) : FnOk P w K mg base CX0 (2 + 1) T.f_search T.fd_search ["many", "activities", "one"] (sp_search T) :=
  T.F_search.ok sc_search (fun vs H Q E h => by obtain ⟨_, _, _, _, rfl, _⟩ := h; rfl) fun cdv A outer s H vs Q E hr h => ⟨t_search T, d_search T (ok_coming_to T) (ok_sorted_events T) (ok_plus T) (ok_is_later T) hr, rd_search T h⟩
theorem ok_times_from (T : TX K mg) : FnOk P w K mg base CX0 (3 + 1) T.f_times_from T.fd_times_from ["many", "activities", "one"] (sp_times_from T) :=
  T.F_times_from.ok sc_times_from (fun vs H Q E h => by obtain ⟨_, _, _, _, rfl, _⟩ := h; rfl) fun cdv A outer s H vs Q E hr h => ⟨t_times_from T, d_times_from T (ok_search T) hr, rd_times_from T h⟩
theorem ok_times_of (T : TX K mg) : FnOk P w K mg base CX0 (4 + 1) T.f_times_of T.fd_times_of ["plan"] (sp_times_of T) :=
  T.F_times_of.ok sc_times_of (fun vs H Q E h => by obtain ⟨_, _, _, rfl, _⟩ := h; rfl) fun cdv A outer s H vs Q E hr h => ⟨t_times_of T, d_times_of T (ok_times_from T) hr, rd_times_of T h⟩
theorem ok_pairs_of (T : TX K mg) : FnOk P w K mg base CX0 (0 + 1) T.f_pairs_of T.fd_pairs_of ["found"] (sp_pairs_of T) :=
  T.F_pairs_of.ok sc_pairs_of (fun vs H Q E h => by obtain ⟨_, _, _, rfl, _⟩ := h; rfl) fun cdv A outer s H vs Q E hr h => ⟨t_pairs_of T, d_pairs_of T hr, rd_pairs_of T h⟩
theorem ok_sums_between (T : TX K mg) : FnOk P w K mg base CX0 (1 + 1) T.f_sums_between T.fd_sums_between ["found", "a", "b"] (sp_sums_between T) :=
  T.F_sums_between.ok sc_sums_between (fun vs H Q E h => by obtain ⟨_, _, _, _, _, rfl, _⟩ := h; rfl) fun cdv A outer s H vs Q E hr h => ⟨t_sums_between T, d_sums_between T (ok_plus T) hr, rd_sums_between T h⟩
theorem ok_closure (T : TX K mg) : FnOk P w K mg base (L2.CX P w) (6 + 1) T.f_closure T.fd_closure ["plan"] (sp_closure T) :=
  T.F_closure.okX sc_closure (fun vs H Q E h => by obtain ⟨_, _, rfl, _⟩ := h; rfl) fun cdv A outer s H vs Q E hr h => ⟨t_closure T E, d_closure T (ok_check_plan T) (ok_times_of T) (ok_pairs_of T) (ok_plan_of T) (ok_init_TooMany T) hr, rd_closure T h⟩
theorem ok_is_spare (T : TX K mg) : FnOk P w K mg base (L2.CX P w) (6 + 1) T.f_is_spare T.fd_is_spare ["plan", "activity"] (sp_is_spare T) :=
  T.F_is_spare.okX sc_is_spare (fun vs H Q E h => by obtain ⟨_, _, _, _, rfl, _⟩ := h; rfl) fun cdv A outer s H vs Q E hr h => ⟨t_is_spare T E, d_is_spare T (ok_check_plan T) (ok_is_index T) (ok_times_of T) (ok_init_InvalidActivity T) hr, rd_is_spare T h⟩
theorem ok_reduced (T : TX K mg) : FnOk P w K mg base (L2.CX P w) (6 + 1) T.f_reduced T.fd_reduced ["plan"] (sp_reduced T) :=
  T.F_reduced.okX sc_reduced (fun vs H Q E h => by obtain ⟨_, _, rfl, _⟩ := h; rfl) fun cdv A outer s H vs Q E hr h => ⟨t_reduced T E, d_reduced T (ok_check_plan T) (ok_times_of T) (ok_pairs_of T) (ok_sums_between T) (ok_plan_of T) hr, rd_reduced T h⟩
theorem ok_law_cell (T : TX K mg) : FnOk P w K mg base CX0 (0 + 1) T.f_law_cell T.fd_law_cell ["script", "k"] (sp_law_cell T) :=
  T.F_law_cell.ok sc_law_cell (fun vs H Q E h => by obtain ⟨_, _, _, rfl, _⟩ := h; rfl) fun cdv A outer s H vs Q E hr h => ⟨t_law_cell T, d_law_cell T hr, rd_law_cell T h⟩
theorem ok_law_box (T : TX K mg) : FnOk P w K mg base CX0 (0 + 1) T.f_law_box T.fd_law_box ["great"] (sp_law_box T) :=
  T.F_law_box.ok sc_law_box (fun vs H Q E h => by obtain ⟨_, rfl, _⟩ := h; rfl) fun cdv A outer s H vs Q E hr h => ⟨t_law_box T, d_law_box T hr, rd_law_box T h⟩
theorem ok_law_take (T : TX K mg) : FnOk P w K mg base CX0 (0 + 1) T.f_law_take T.fd_law_take ["box", "many"] (sp_law_take T) :=
  T.F_law_take.ok sc_law_take (fun vs H Q E h => by obtain ⟨_, _, _, rfl, _⟩ := h; rfl) fun cdv A outer s H vs Q E hr h => ⟨t_law_take T, d_law_take T hr, rd_law_take T h⟩
theorem ok_law_mixed (T : TX K mg) : FnOk P w K mg base CX0 (1 + 1) T.f_law_mixed T.fd_law_mixed ["box", "items"] (sp_law_mixed T) :=
  T.F_law_mixed.ok sc_law_mixed (fun vs H Q E h => by obtain ⟨_, _, _, _, rfl, _⟩ := h; rfl) fun cdv A outer s H vs Q E hr h => ⟨t_law_mixed T, d_law_mixed T (ok_law_take T) hr, rd_law_mixed T h⟩
theorem ok_law_same (T : TX K mg) : ∀ lv, FnOk P w K mg base CX0 lv T.f_law_same T.fd_law_same ["given", "due"] (sp_same T lv)
  | 0 => ⟨fun _ _ _ _ ⟨_, _, _, _, _, _, h, _⟩ => h.elim, fun _ _ _ _ _ _ _ _ _ _ _ _ _ ⟨_, _, _, _, _, _, h, _⟩ => h.elim⟩
  | lv + 1 => T.F_law_same.ok sc_law_same (fun vs H Q E h => by obtain ⟨_, _, _, rfl, _⟩ := h; rfl) fun cdv A outer s H vs Q E hr h => ⟨t_law_same T lv, d_law_same T lv (ok_law_same T lv) hr, rd_law_same T h⟩
theorem ok_law_times (T : TX K mg) : FnOk P w K mg base CX0 (0 + 1) T.f_law_times T.fd_law_times ["many", "activities"] (sp_law_times T) :=
  T.F_law_times.ok sc_law_times (fun vs H Q E h => by obtain ⟨_, _, _, rfl, _⟩ := h; rfl) fun cdv A outer s H vs Q E hr h => ⟨t_law_times T, d_law_times T hr, rd_law_times T h⟩
theorem ok_law_duration (T : TX K mg) : FnOk P w K mg base CX0 (1 + 1) T.f_law_duration T.fd_law_duration ["box", "great"] (sp_law_duration T) :=
  T.F_law_duration.ok sc_law_duration (fun vs H Q E h => by obtain ⟨_, _, _, rfl, _⟩ := h; rfl) fun cdv A outer s H vs Q E hr h => ⟨t_law_duration T, d_law_duration T (ok_law_take T) hr, rd_law_duration T h⟩
theorem ok_law_steps (T : TX K mg) : FnOk P w K mg base CX0 (2 + 1) T.f_law_steps T.fd_law_steps ["box", "order", "count", "great"] (sp_law_steps T) :=
  T.F_law_steps.ok sc_law_steps (fun vs H Q E h => by obtain ⟨_, _, _, _, _, _, rfl, _⟩ := h; rfl) fun cdv A outer s H vs Q E hr h => ⟨t_law_steps T, d_law_steps T (ok_law_take T) (ok_law_duration T) hr, rd_law_steps T h⟩
theorem ok_law_plan (T : TX K mg) : FnOk P w K mg base CX0 (3 + 1) T.f_law_plan T.fd_law_plan ["box", "wide", "great"] (sp_law_plan T) :=
  T.F_law_plan.ok sc_law_plan (fun vs H Q E h => by obtain ⟨_, _, _, _, rfl, _⟩ := h; rfl) fun cdv A outer s H vs Q E hr h => ⟨t_law_plan T, d_law_plan T (ok_law_take T) (ok_law_mixed T) (ok_law_steps T) (ok_law_duration T) hr, rd_law_plan T h⟩
theorem ok_law_bad_plan (T : TX K mg) : FnOk P w K mg base CX0 (1 + 1) T.f_law_bad_plan T.fd_law_bad_plan ["box", "plan"] (sp_law_bad_plan T) :=
  T.F_law_bad_plan.ok sc_law_bad_plan (fun vs H Q E h => by obtain ⟨_, _, _, _, _, rfl, _⟩ := h; rfl) fun cdv A outer s H vs Q E hr h => ⟨t_law_bad_plan T, d_law_bad_plan T (ok_law_take T) hr, rd_law_bad_plan T h⟩
theorem ok_law_line (T : TX K mg) : FnOk P w K mg base CX0 (2 + 1) T.f_law_line T.fd_law_line ["box"] (sp_law_line T) :=
  T.F_law_line.ok sc_law_line (fun vs H Q E h => by obtain ⟨_, _, rfl, _⟩ := h; rfl) fun cdv A outer s H vs Q E hr h => ⟨t_law_line T, d_law_line T (ok_law_take T) (ok_law_mixed T) hr, rd_law_line T h⟩
theorem ok_law_even (T : TX K mg) : FnOk P w K mg base CX0 (1 + 1) T.f_law_even T.fd_law_even ["box", "plan"] (sp_law_even T) :=
  T.F_law_even.ok sc_law_even (fun vs H Q E h => by obtain ⟨_, _, _, _, _, rfl, _⟩ := h; rfl) fun cdv A outer s H vs Q E hr h => ⟨t_law_even T, d_law_even T (ok_law_times T) (ok_law_take T) hr, rd_law_even T h⟩
theorem ok_law_pairs (T : TX K mg) : FnOk P w K mg base CX0 (0 + 1) T.f_law_pairs T.fd_law_pairs ["rows"] (sp_law_pairs T) :=
  T.F_law_pairs.ok sc_law_pairs (fun vs H Q E h => by obtain ⟨_, _, _, _, rfl, _⟩ := h; rfl) fun cdv A outer s H vs Q E hr h => ⟨t_law_pairs T, d_law_pairs T hr, rd_law_pairs T h⟩
theorem ok_law_reduced (T : TX K mg) : FnOk P w K mg base CX0 (1 + 1) T.f_law_reduced T.fd_law_reduced ["plan"] (sp_law_reduced T) :=
  T.F_law_reduced.ok sc_law_reduced (fun vs H Q E h => by obtain ⟨_, _, _, rfl, _⟩ := h; rfl) fun cdv A outer s H vs Q E hr h => ⟨t_law_reduced T, d_law_reduced T (ok_law_times T) (ok_law_pairs T) hr, rd_law_reduced T h⟩
theorem ok_law_without (T : TX K mg) : FnOk P w K mg base CX0 (0 + 1) T.f_law_without T.fd_law_without ["plan", "at"] (sp_law_without T) :=
  T.F_law_without.ok sc_law_without (fun vs H Q E h => by obtain ⟨_, _, _, _, rfl, _⟩ := h; rfl) fun cdv A outer s H vs Q E hr h => ⟨t_law_without T, d_law_without T hr, rd_law_without T h⟩
theorem ok_law_asked (T : TX K mg) : FnOk P w K mg base CX0 (7 + 1) T.f_law_asked T.fd_law_asked ["which", "args", "turn"] (sp_law_asked T) :=
  T.F_law_asked.ok sc_law_asked (fun vs H Q E h => by obtain ⟨_, _, _, _, _, _, rfl, _⟩ := h; rfl) fun cdv A outer s H vs Q E hr h => ⟨t_law_asked T, d_law_asked T (ok_closure T) (ok_reduced T) (ok_is_spare T) hr, rd_law_asked T h⟩
theorem ok_law_plan_right (T : TX K mg) : FnOk P w K mg base CX0 (8 + 1) T.f_law_plan_right T.fd_law_plan_right ["box", "plan", "other", "turn"] (sp_law_plan_right T) :=
  T.F_law_plan_right.ok sc_law_plan_right (fun vs H Q E h => by obtain ⟨_, _, _, _, _, _, _, _, _, rfl, _⟩ := h; rfl) fun cdv A outer s H vs Q E hr h => ⟨t_law_plan_right T, d_law_plan_right T (ok_law_times T) (ok_law_reduced T) (ok_law_pairs T) (ok_law_mixed T) (ok_law_asked T) ((ok_law_same T 7).mono (by decide)) hr, rd_law_plan_right T h⟩
theorem ok_law_spare_right (T : TX K mg) : FnOk P w K mg base CX0 (8 + 1) T.f_law_spare_right T.fd_law_spare_right ["box", "plan", "turn"] (sp_law_spare_right T) :=
  T.F_law_spare_right.ok sc_law_spare_right (fun vs H Q E h => by obtain ⟨_, _, _, _, _, _, rfl, _⟩ := h; rfl) fun cdv A outer s H vs Q E hr h => ⟨t_law_spare_right T, d_law_spare_right T (ok_law_reduced T) (ok_law_times T) (ok_law_mixed T) (ok_law_without T) (ok_law_asked T) ((ok_law_same T 7).mono (by decide)) hr, rd_law_spare_right T h⟩
theorem ok_law_refused_right (T : TX K mg) : FnOk P w K mg base CX0 (8 + 1) T.f_law_refused_right T.fd_law_refused_right ["box", "plan", "turn"] (sp_law_refused_right T) :=
  T.F_law_refused_right.ok sc_law_refused_right (fun vs H Q E h => by obtain ⟨_, _, _, _, _, _, rfl, _⟩ := h; rfl) fun cdv A outer s H vs Q E hr h => ⟨t_law_refused_right T, d_law_refused_right T (ok_law_take T) (ok_law_bad_plan T) (ok_law_asked T) ((ok_law_same T 7).mono (by decide)) hr, rd_law_refused_right T h⟩
theorem ok_law (T : TX K mg) : FnOk P w K mg base CX0 (9 + 1) T.f_law T.fd_law ["script"] (sp_law T) :=
  T.F_law.ok sc_law (fun vs H Q E h => by obtain ⟨_, _, rfl, _⟩ := h; rfl) fun cdv A outer s H vs Q E hr h => ⟨t_law T, d_law T (ok_law_cell T) (ok_law_box T) (ok_law_take T) (ok_law_plan T) (ok_law_line T) (ok_law_even T) (ok_law_plan_right T) (ok_law_spare_right T) (ok_law_refused_right T) hr, rd_law T h⟩
end
end A69
end

section
set_option maxRecDepth 100000
set_option maxHeartbeats 8000000
/-! HD69: the top's facts, and the end. Printed by head69.py. -/
namespace A69
open PySem PySem.Spec PyProof.Rows L2 KX MP
def spLaw (K : PySem.W.Frag) : Sp := fun vs H Q _ => ∃ (a : Addr) (ns : List Int), vs = [.ref a] ∧ SqL K H a (ns.map V.int) ∧ ∀ H', Q (.bl true) H'
theorem all_mk {P : Program} {w : World} {K : PySem.W.Frag} {h : Heap} {mg : Str → Option Value} {fa : Addr} (X : K.In h) (G : h.Ns mainGlobals mg) (hfa : mg "law" = some (.ref fa))
    {t_MOST_EVENTS : Tok}
    {t_MOST_ACTIVITIES : Tok}
    {c_PlanError c_InvalidPlan c_InvalidActivity c_TooMany : Addr}
    {nm1 qn1 : Str} {N1 : Addr} {bs1 : List Value} {sn1 : List Str} {sb1 : List Value} {ab1 : Bool} {co1 : Option Bool} {dd1 : Option Addr} {m01 m11 m21 m31 m51 : Option Value} {fi_InvalidPlan : Addr}
    {od2 an2 : Option Addr} {sl2 : Array (Option Value)} {oc2 kV2 dc2 pm2 cd2 ct2 : Value}
    {nm3 qn3 : Str} {N3 : Addr} {bs3 : List Value} {sn3 : List Str} {sb3 : List Value} {ab3 : Bool} {co3 : Option Bool} {dd3 : Option Addr} {m03 m13 m23 m33 m53 : Option Value} {fi_InvalidActivity : Addr}
    {od4 an4 : Option Addr} {sl4 : Array (Option Value)} {oc4 kV4 dc4 pm4 cd4 ct4 : Value}
    {nm5 qn5 : Str} {N5 : Addr} {bs5 : List Value} {sn5 : List Str} {sb5 : List Value} {ab5 : Bool} {co5 : Option Bool} {dd5 : Option Addr} {m05 m15 m25 m35 m55 : Option Value} {fi_TooMany : Addr}
    {od6 an6 : Option Addr} {sl6 : Array (Option Value)} {oc6 kV6 dc6 pm6 cd6 ct6 : Value}
    {f_is_integer : Addr}
    {od7 an7 : Option Addr} {sl7 : Array (Option Value)} {oc7 kV7 dc7 pm7 cd7 ct7 : Value}
    {f_is_count : Addr}
    {od8 an8 : Option Addr} {sl8 : Array (Option Value)} {oc8 kV8 dc8 pm8 cd8 ct8 : Value}
    {f_is_within : Addr}
    {od9 an9 : Option Addr} {sl9 : Array (Option Value)} {oc9 kV9 dc9 pm9 cd9 ct9 : Value}
    {f_is_index : Addr}
    {od10 an10 : Option Addr} {sl10 : Array (Option Value)} {oc10 kV10 dc10 pm10 cd10 ct10 : Value}
    {f_is_tuple : Addr}
    {od11 an11 : Option Addr} {sl11 : Array (Option Value)} {oc11 kV11 dc11 pm11 cd11 ct11 : Value}
    {f_in_order : Addr}
    {od12 an12 : Option Addr} {sl12 : Array (Option Value)} {oc12 kV12 dc12 pm12 cd12 ct12 : Value}
    {f_plus : Addr}
    {od13 an13 : Option Addr} {sl13 : Array (Option Value)} {oc13 kV13 dc13 pm13 cd13 ct13 : Value}
    {f_is_later : Addr}
    {od14 an14 : Option Addr} {sl14 : Array (Option Value)} {oc14 kV14 dc14 pm14 cd14 ct14 : Value}
    {f_is_activity : Addr}
    {od15 an15 : Option Addr} {sl15 : Array (Option Value)} {oc15 kV15 dc15 pm15 cd15 ct15 : Value}
    {f_are_activities : Addr}
    {od16 an16 : Option Addr} {sl16 : Array (Option Value)} {oc16 kV16 dc16 pm16 cd16 ct16 : Value}
    {f_coming_to : Addr}
    {od17 an17 : Option Addr} {sl17 : Array (Option Value)} {oc17 kV17 dc17 pm17 cd17 ct17 : Value}
    {f_sorted_events : Addr}
    {od18 an18 : Option Addr} {sl18 : Array (Option Value)} {oc18 kV18 dc18 pm18 cd18 ct18 : Value}
    {f_has_ring : Addr}
    {od19 an19 : Option Addr} {sl19 : Array (Option Value)} {oc19 kV19 dc19 pm19 cd19 ct19 : Value}
    {f_is_plan : Addr}
    {od20 an20 : Option Addr} {sl20 : Array (Option Value)} {oc20 kV20 dc20 pm20 cd20 ct20 : Value}
    {f_check_plan : Addr}
    {od21 an21 : Option Addr} {sl21 : Array (Option Value)} {oc21 kV21 dc21 pm21 cd21 ct21 : Value}
    {f_plan_of : Addr}
    {od22 an22 : Option Addr} {sl22 : Array (Option Value)} {oc22 kV22 dc22 pm22 cd22 ct22 : Value}
    {f_search : Addr}
    {od23 an23 : Option Addr} {sl23 : Array (Option Value)} {oc23 kV23 dc23 pm23 cd23 ct23 : Value}
    {f_times_from : Addr}
    {od24 an24 : Option Addr} {sl24 : Array (Option Value)} {oc24 kV24 dc24 pm24 cd24 ct24 : Value}
    {f_times_of : Addr}
    {od25 an25 : Option Addr} {sl25 : Array (Option Value)} {oc25 kV25 dc25 pm25 cd25 ct25 : Value}
    {f_pairs_of : Addr}
    {od26 an26 : Option Addr} {sl26 : Array (Option Value)} {oc26 kV26 dc26 pm26 cd26 ct26 : Value}
    {f_sums_between : Addr}
    {od27 an27 : Option Addr} {sl27 : Array (Option Value)} {oc27 kV27 dc27 pm27 cd27 ct27 : Value}
    {f_closure : Addr}
    {od28 an28 : Option Addr} {sl28 : Array (Option Value)} {oc28 kV28 dc28 pm28 cd28 ct28 : Value}
    {f_is_spare : Addr}
    {od29 an29 : Option Addr} {sl29 : Array (Option Value)} {oc29 kV29 dc29 pm29 cd29 ct29 : Value}
    {f_reduced : Addr}
    {od30 an30 : Option Addr} {sl30 : Array (Option Value)} {oc30 kV30 dc30 pm30 cd30 ct30 : Value}
    {f_law_cell : Addr}
    {od31 an31 : Option Addr} {sl31 : Array (Option Value)} {oc31 kV31 dc31 pm31 cd31 ct31 : Value}
    {f_law_box : Addr}
    {od32 an32 : Option Addr} {sl32 : Array (Option Value)} {oc32 kV32 dc32 pm32 cd32 ct32 : Value}
    {f_law_take : Addr}
    {od33 an33 : Option Addr} {sl33 : Array (Option Value)} {oc33 kV33 dc33 pm33 cd33 ct33 : Value}
    {f_law_mixed : Addr}
    {od34 an34 : Option Addr} {sl34 : Array (Option Value)} {oc34 kV34 dc34 pm34 cd34 ct34 : Value}
    {f_law_same : Addr}
    {od35 an35 : Option Addr} {sl35 : Array (Option Value)} {oc35 kV35 dc35 pm35 cd35 ct35 : Value}
    {f_law_times : Addr}
    {od36 an36 : Option Addr} {sl36 : Array (Option Value)} {oc36 kV36 dc36 pm36 cd36 ct36 : Value}
    {f_law_duration : Addr}
    {od37 an37 : Option Addr} {sl37 : Array (Option Value)} {oc37 kV37 dc37 pm37 cd37 ct37 : Value}
    {f_law_steps : Addr}
    {od38 an38 : Option Addr} {sl38 : Array (Option Value)} {oc38 kV38 dc38 pm38 cd38 ct38 : Value}
    {f_law_plan : Addr}
    {od39 an39 : Option Addr} {sl39 : Array (Option Value)} {oc39 kV39 dc39 pm39 cd39 ct39 : Value}
    {f_law_bad_plan : Addr}
    {od40 an40 : Option Addr} {sl40 : Array (Option Value)} {oc40 kV40 dc40 pm40 cd40 ct40 : Value}
    {f_law_line : Addr}
    {od41 an41 : Option Addr} {sl41 : Array (Option Value)} {oc41 kV41 dc41 pm41 cd41 ct41 : Value}
    {f_law_even : Addr}
    {od42 an42 : Option Addr} {sl42 : Array (Option Value)} {oc42 kV42 dc42 pm42 cd42 ct42 : Value}
    {f_law_pairs : Addr}
    {od43 an43 : Option Addr} {sl43 : Array (Option Value)} {oc43 kV43 dc43 pm43 cd43 ct43 : Value}
    {f_law_reduced : Addr}
    {od44 an44 : Option Addr} {sl44 : Array (Option Value)} {oc44 kV44 dc44 pm44 cd44 ct44 : Value}
    {f_law_without : Addr}
    {od45 an45 : Option Addr} {sl45 : Array (Option Value)} {oc45 kV45 dc45 pm45 cd45 ct45 : Value}
    {f_law_asked : Addr}
    {od46 an46 : Option Addr} {sl46 : Array (Option Value)} {oc46 kV46 dc46 pm46 cd46 ct46 : Value}
    {f_law_plan_right : Addr}
    {od47 an47 : Option Addr} {sl47 : Array (Option Value)} {oc47 kV47 dc47 pm47 cd47 ct47 : Value}
    {f_law_spare_right : Addr}
    {od48 an48 : Option Addr} {sl48 : Array (Option Value)} {oc48 kV48 dc48 pm48 cd48 ct48 : Value}
    {f_law_refused_right : Addr}
    {od49 an49 : Option Addr} {sl49 : Array (Option Value)} {oc49 kV49 dc49 pm49 cd49 ct49 : Value}
    {f_law : Addr}
    {od50 an50 : Option Addr} {sl50 : Array (Option Value)} {oc50 kV50 dc50 pm50 cd50 ct50 : Value}
    (Zabs : PySem.W.nsIn K mainGlobals "abs" = some none)
    (Zall : PySem.W.nsIn K mainGlobals "all" = some none)
    (Zbool : PySem.W.nsIn K mainGlobals "bool" = some none)
    (Zenumerate : PySem.W.nsIn K mainGlobals "enumerate" = some none)
    (Zint : PySem.W.nsIn K mainGlobals "int" = some none)
    (Zisinstance : PySem.W.nsIn K mainGlobals "isinstance" = some none)
    (Zlen : PySem.W.nsIn K mainGlobals "len" = some none)
    (Zlist : PySem.W.nsIn K mainGlobals "list" = some none)
    (Zmax : PySem.W.nsIn K mainGlobals "max" = some none)
    (Zmin : PySem.W.nsIn K mainGlobals "min" = some none)
    (Zrange : PySem.W.nsIn K mainGlobals "range" = some none)
    (Zsorted : PySem.W.nsIn K mainGlobals "sorted" = some none)
    (Zstr : PySem.W.nsIn K mainGlobals "str" = some none)
    (Zsum : PySem.W.nsIn K mainGlobals "sum" = some none)
    (Ztuple : PySem.W.nsIn K mainGlobals "tuple" = some none)
    (AMOST_EVENTS : PySem.W.nsIn K mainGlobals "MOST_EVENTS" = some (some (.int 20 t_MOST_EVENTS)))
    (AMOST_ACTIVITIES : PySem.W.nsIn K mainGlobals "MOST_ACTIVITIES" = some (some (.int 120 t_MOST_ACTIVITIES)))
    (aPlanError : PySem.W.nsIn K mainGlobals "PlanError" = some (some (.ref c_PlanError)))
    (kPlanError : PySem.W.keepIn K (.ref c_PlanError) = true)
    (gPlanError : PySem.W.specialIn K (.ref c_PlanError) "__getattribute__" = some (some (.builtin "type.__getattribute__")))
    (rPlanError : PySem.W.readsIn K c_PlanError (.type "type") = true)
    (iPlanError : PySem.W.findCls K (.ref c_PlanError) (.type "type") "__init__" = some (.val (.builtin "ValueError.__init__")))
    (aInvalidPlan : PySem.W.nsIn K mainGlobals "InvalidPlan" = some (some (.ref c_InvalidPlan)))
    (xInvalidPlan : K.lookup c_InvalidPlan = some (excClassObj nm1 qn1 c_InvalidPlan N1 bs1 [.ref c_PlanError, .type "ValueError", .type "Exception", .type "BaseException", .type "object"] true sn1 sb1 ab1 co1 dd1 m01 m11 m21 m31 m51 "ValueError.__new__"))
    (saInvalidPlan : PySem.W.findIn K (.ref c_InvalidPlan) "__setattr__" = some (some (.builtin "object.__setattr__")))
    (gaInvalidPlan : PySem.W.findIn K (.ref c_InvalidPlan) "__getattribute__" = some (some (.builtin "BaseException.__getattribute__")))
    (ggInvalidPlan : PySem.W.findIn K (.ref c_InvalidPlan) "__getattr__" = some none)
    (nbInvalidPlan : PySem.W.findIn K (.ref c_InvalidPlan) "given" = some none)
    (iInvalidPlan : PySem.W.findIn K (.ref c_InvalidPlan) "__init__" = some (some (.ref fi_InvalidPlan)))
    (tInvalidPlan : PySem.W.typeIn K (.ref fi_InvalidPlan) = some (.type "function"))
    (l_init_InvalidPlan : K.lookup fi_InvalidPlan = some ⟨oc2, od2, .func (PySem.W.fnOf "__init__" "InvalidPlan.__init__" (defArgs s_init_InvalidPlan) (defBody s_init_InvalidPlan) (defScope s_init_InvalidPlan) .none kV2 dc2 pm2 an2 cd2 ct2), sl2⟩)
    (d_init_InvalidPlan : PySem.W.codeIn K cd2 "InvalidPlan.__init__" = true)
    (k_init_InvalidPlan : PySem.W.keepIn K (.ref fi_InvalidPlan) = true)
    (kcInvalidPlan : PySem.W.keepIn K (.ref c_InvalidPlan) = true)
    (ecInvalidPlan : PySem.W.subIn K (.ref c_InvalidPlan) (.type "BaseException") = some true)
    (tcInvalidPlan : PySem.W.typeIn K (.ref c_InvalidPlan) = some (.type "type"))
    (hdInvalidPlan : PySem.W.hasDictIn K c_InvalidPlan = true)
    (aInvalidActivity : PySem.W.nsIn K mainGlobals "InvalidActivity" = some (some (.ref c_InvalidActivity)))
    (xInvalidActivity : K.lookup c_InvalidActivity = some (excClassObj nm3 qn3 c_InvalidActivity N3 bs3 [.ref c_PlanError, .type "ValueError", .type "Exception", .type "BaseException", .type "object"] true sn3 sb3 ab3 co3 dd3 m03 m13 m23 m33 m53 "ValueError.__new__"))
    (saInvalidActivity : PySem.W.findIn K (.ref c_InvalidActivity) "__setattr__" = some (some (.builtin "object.__setattr__")))
    (gaInvalidActivity : PySem.W.findIn K (.ref c_InvalidActivity) "__getattribute__" = some (some (.builtin "BaseException.__getattribute__")))
    (ggInvalidActivity : PySem.W.findIn K (.ref c_InvalidActivity) "__getattr__" = some none)
    (nbInvalidActivity : PySem.W.findIn K (.ref c_InvalidActivity) "given" = some none)
    (iInvalidActivity : PySem.W.findIn K (.ref c_InvalidActivity) "__init__" = some (some (.ref fi_InvalidActivity)))
    (tInvalidActivity : PySem.W.typeIn K (.ref fi_InvalidActivity) = some (.type "function"))
    (l_init_InvalidActivity : K.lookup fi_InvalidActivity = some ⟨oc4, od4, .func (PySem.W.fnOf "__init__" "InvalidActivity.__init__" (defArgs s_init_InvalidActivity) (defBody s_init_InvalidActivity) (defScope s_init_InvalidActivity) .none kV4 dc4 pm4 an4 cd4 ct4), sl4⟩)
    (d_init_InvalidActivity : PySem.W.codeIn K cd4 "InvalidActivity.__init__" = true)
    (k_init_InvalidActivity : PySem.W.keepIn K (.ref fi_InvalidActivity) = true)
    (kcInvalidActivity : PySem.W.keepIn K (.ref c_InvalidActivity) = true)
    (ecInvalidActivity : PySem.W.subIn K (.ref c_InvalidActivity) (.type "BaseException") = some true)
    (tcInvalidActivity : PySem.W.typeIn K (.ref c_InvalidActivity) = some (.type "type"))
    (hdInvalidActivity : PySem.W.hasDictIn K c_InvalidActivity = true)
    (aTooMany : PySem.W.nsIn K mainGlobals "TooMany" = some (some (.ref c_TooMany)))
    (xTooMany : K.lookup c_TooMany = some (excClassObj nm5 qn5 c_TooMany N5 bs5 [.ref c_PlanError, .type "ValueError", .type "Exception", .type "BaseException", .type "object"] true sn5 sb5 ab5 co5 dd5 m05 m15 m25 m35 m55 "ValueError.__new__"))
    (saTooMany : PySem.W.findIn K (.ref c_TooMany) "__setattr__" = some (some (.builtin "object.__setattr__")))
    (gaTooMany : PySem.W.findIn K (.ref c_TooMany) "__getattribute__" = some (some (.builtin "BaseException.__getattribute__")))
    (ggTooMany : PySem.W.findIn K (.ref c_TooMany) "__getattr__" = some none)
    (nbTooMany : PySem.W.findIn K (.ref c_TooMany) "count" = some none)
    (iTooMany : PySem.W.findIn K (.ref c_TooMany) "__init__" = some (some (.ref fi_TooMany)))
    (tTooMany : PySem.W.typeIn K (.ref fi_TooMany) = some (.type "function"))
    (l_init_TooMany : K.lookup fi_TooMany = some ⟨oc6, od6, .func (PySem.W.fnOf "__init__" "TooMany.__init__" (defArgs s_init_TooMany) (defBody s_init_TooMany) (defScope s_init_TooMany) .none kV6 dc6 pm6 an6 cd6 ct6), sl6⟩)
    (d_init_TooMany : PySem.W.codeIn K cd6 "TooMany.__init__" = true)
    (k_init_TooMany : PySem.W.keepIn K (.ref fi_TooMany) = true)
    (kcTooMany : PySem.W.keepIn K (.ref c_TooMany) = true)
    (ecTooMany : PySem.W.subIn K (.ref c_TooMany) (.type "BaseException") = some true)
    (tcTooMany : PySem.W.typeIn K (.ref c_TooMany) = some (.type "type"))
    (hdTooMany : PySem.W.hasDictIn K c_TooMany = true)
    (s_e_InvalidPlan_InvalidPlan : PySem.W.subIn K (.ref c_InvalidPlan) (.ref c_InvalidPlan) = some true)
    (s_e_InvalidActivity_InvalidPlan : PySem.W.subIn K (.ref c_InvalidActivity) (.ref c_InvalidPlan) = some false)
    (s_e_InvalidActivity_InvalidActivity : PySem.W.subIn K (.ref c_InvalidActivity) (.ref c_InvalidActivity) = some true)
    (s_e_TooMany_InvalidPlan : PySem.W.subIn K (.ref c_TooMany) (.ref c_InvalidPlan) = some false)
    (s_e_TooMany_InvalidActivity : PySem.W.subIn K (.ref c_TooMany) (.ref c_InvalidActivity) = some false)
    (s_e_TooMany_TooMany : PySem.W.subIn K (.ref c_TooMany) (.ref c_TooMany) = some true)
    (a_is_integer : PySem.W.nsIn K mainGlobals "is_integer" = some (some (.ref f_is_integer)))
    (l_is_integer : K.lookup f_is_integer = some ⟨oc7, od7, .func (PySem.W.fnOf "is_integer" "is_integer" (defArgs s_is_integer) (defBody s_is_integer) (defScope s_is_integer) .none kV7 dc7 pm7 an7 cd7 ct7), sl7⟩)
    (d_is_integer : PySem.W.codeIn K cd7 "is_integer" = true)
    (k_is_integer : PySem.W.keepIn K (.ref f_is_integer) = true)
    (a_is_count : PySem.W.nsIn K mainGlobals "is_count" = some (some (.ref f_is_count)))
    (l_is_count : K.lookup f_is_count = some ⟨oc8, od8, .func (PySem.W.fnOf "is_count" "is_count" (defArgs s_is_count) (defBody s_is_count) (defScope s_is_count) .none kV8 dc8 pm8 an8 cd8 ct8), sl8⟩)
    (d_is_count : PySem.W.codeIn K cd8 "is_count" = true)
    (k_is_count : PySem.W.keepIn K (.ref f_is_count) = true)
    (a_is_within : PySem.W.nsIn K mainGlobals "is_within" = some (some (.ref f_is_within)))
    (l_is_within : K.lookup f_is_within = some ⟨oc9, od9, .func (PySem.W.fnOf "is_within" "is_within" (defArgs s_is_within) (defBody s_is_within) (defScope s_is_within) .none kV9 dc9 pm9 an9 cd9 ct9), sl9⟩)
    (d_is_within : PySem.W.codeIn K cd9 "is_within" = true)
    (k_is_within : PySem.W.keepIn K (.ref f_is_within) = true)
    (a_is_index : PySem.W.nsIn K mainGlobals "is_index" = some (some (.ref f_is_index)))
    (l_is_index : K.lookup f_is_index = some ⟨oc10, od10, .func (PySem.W.fnOf "is_index" "is_index" (defArgs s_is_index) (defBody s_is_index) (defScope s_is_index) .none kV10 dc10 pm10 an10 cd10 ct10), sl10⟩)
    (d_is_index : PySem.W.codeIn K cd10 "is_index" = true)
    (k_is_index : PySem.W.keepIn K (.ref f_is_index) = true)
    (a_is_tuple : PySem.W.nsIn K mainGlobals "is_tuple" = some (some (.ref f_is_tuple)))
    (l_is_tuple : K.lookup f_is_tuple = some ⟨oc11, od11, .func (PySem.W.fnOf "is_tuple" "is_tuple" (defArgs s_is_tuple) (defBody s_is_tuple) (defScope s_is_tuple) .none kV11 dc11 pm11 an11 cd11 ct11), sl11⟩)
    (d_is_tuple : PySem.W.codeIn K cd11 "is_tuple" = true)
    (k_is_tuple : PySem.W.keepIn K (.ref f_is_tuple) = true)
    (a_in_order : PySem.W.nsIn K mainGlobals "in_order" = some (some (.ref f_in_order)))
    (l_in_order : K.lookup f_in_order = some ⟨oc12, od12, .func (PySem.W.fnOf "in_order" "in_order" (defArgs s_in_order) (defBody s_in_order) (defScope s_in_order) .none kV12 dc12 pm12 an12 cd12 ct12), sl12⟩)
    (d_in_order : PySem.W.codeIn K cd12 "in_order" = true)
    (k_in_order : PySem.W.keepIn K (.ref f_in_order) = true)
    (a_plus : PySem.W.nsIn K mainGlobals "plus" = some (some (.ref f_plus)))
    (l_plus : K.lookup f_plus = some ⟨oc13, od13, .func (PySem.W.fnOf "plus" "plus" (defArgs s_plus) (defBody s_plus) (defScope s_plus) .none kV13 dc13 pm13 an13 cd13 ct13), sl13⟩)
    (d_plus : PySem.W.codeIn K cd13 "plus" = true)
    (k_plus : PySem.W.keepIn K (.ref f_plus) = true)
    (a_is_later : PySem.W.nsIn K mainGlobals "is_later" = some (some (.ref f_is_later)))
    (l_is_later : K.lookup f_is_later = some ⟨oc14, od14, .func (PySem.W.fnOf "is_later" "is_later" (defArgs s_is_later) (defBody s_is_later) (defScope s_is_later) .none kV14 dc14 pm14 an14 cd14 ct14), sl14⟩)
    (d_is_later : PySem.W.codeIn K cd14 "is_later" = true)
    (k_is_later : PySem.W.keepIn K (.ref f_is_later) = true)
    (a_is_activity : PySem.W.nsIn K mainGlobals "is_activity" = some (some (.ref f_is_activity)))
    (l_is_activity : K.lookup f_is_activity = some ⟨oc15, od15, .func (PySem.W.fnOf "is_activity" "is_activity" (defArgs s_is_activity) (defBody s_is_activity) (defScope s_is_activity) .none kV15 dc15 pm15 an15 cd15 ct15), sl15⟩)
    (d_is_activity : PySem.W.codeIn K cd15 "is_activity" = true)
    (k_is_activity : PySem.W.keepIn K (.ref f_is_activity) = true)
    (a_are_activities : PySem.W.nsIn K mainGlobals "are_activities" = some (some (.ref f_are_activities)))
    (l_are_activities : K.lookup f_are_activities = some ⟨oc16, od16, .func (PySem.W.fnOf "are_activities" "are_activities" (defArgs s_are_activities) (defBody s_are_activities) (defScope s_are_activities) .none kV16 dc16 pm16 an16 cd16 ct16), sl16⟩)
    (d_are_activities : PySem.W.codeIn K cd16 "are_activities" = true)
    (k_are_activities : PySem.W.keepIn K (.ref f_are_activities) = true)
    (a_coming_to : PySem.W.nsIn K mainGlobals "coming_to" = some (some (.ref f_coming_to)))
    (l_coming_to : K.lookup f_coming_to = some ⟨oc17, od17, .func (PySem.W.fnOf "coming_to" "coming_to" (defArgs s_coming_to) (defBody s_coming_to) (defScope s_coming_to) .none kV17 dc17 pm17 an17 cd17 ct17), sl17⟩)
    (d_coming_to : PySem.W.codeIn K cd17 "coming_to" = true)
    (k_coming_to : PySem.W.keepIn K (.ref f_coming_to) = true)
    (a_sorted_events : PySem.W.nsIn K mainGlobals "sorted_events" = some (some (.ref f_sorted_events)))
    (l_sorted_events : K.lookup f_sorted_events = some ⟨oc18, od18, .func (PySem.W.fnOf "sorted_events" "sorted_events" (defArgs s_sorted_events) (defBody s_sorted_events) (defScope s_sorted_events) .none kV18 dc18 pm18 an18 cd18 ct18), sl18⟩)
    (d_sorted_events : PySem.W.codeIn K cd18 "sorted_events" = true)
    (k_sorted_events : PySem.W.keepIn K (.ref f_sorted_events) = true)
    (a_has_ring : PySem.W.nsIn K mainGlobals "has_ring" = some (some (.ref f_has_ring)))
    (l_has_ring : K.lookup f_has_ring = some ⟨oc19, od19, .func (PySem.W.fnOf "has_ring" "has_ring" (defArgs s_has_ring) (defBody s_has_ring) (defScope s_has_ring) .none kV19 dc19 pm19 an19 cd19 ct19), sl19⟩)
    (d_has_ring : PySem.W.codeIn K cd19 "has_ring" = true)
    (k_has_ring : PySem.W.keepIn K (.ref f_has_ring) = true)
    (a_is_plan : PySem.W.nsIn K mainGlobals "is_plan" = some (some (.ref f_is_plan)))
    (l_is_plan : K.lookup f_is_plan = some ⟨oc20, od20, .func (PySem.W.fnOf "is_plan" "is_plan" (defArgs s_is_plan) (defBody s_is_plan) (defScope s_is_plan) .none kV20 dc20 pm20 an20 cd20 ct20), sl20⟩)
    (d_is_plan : PySem.W.codeIn K cd20 "is_plan" = true)
    (k_is_plan : PySem.W.keepIn K (.ref f_is_plan) = true)
    (a_check_plan : PySem.W.nsIn K mainGlobals "check_plan" = some (some (.ref f_check_plan)))
    (l_check_plan : K.lookup f_check_plan = some ⟨oc21, od21, .func (PySem.W.fnOf "check_plan" "check_plan" (defArgs s_check_plan) (defBody s_check_plan) (defScope s_check_plan) .none kV21 dc21 pm21 an21 cd21 ct21), sl21⟩)
    (d_check_plan : PySem.W.codeIn K cd21 "check_plan" = true)
    (k_check_plan : PySem.W.keepIn K (.ref f_check_plan) = true)
    (a_plan_of : PySem.W.nsIn K mainGlobals "plan_of" = some (some (.ref f_plan_of)))
    (l_plan_of : K.lookup f_plan_of = some ⟨oc22, od22, .func (PySem.W.fnOf "plan_of" "plan_of" (defArgs s_plan_of) (defBody s_plan_of) (defScope s_plan_of) .none kV22 dc22 pm22 an22 cd22 ct22), sl22⟩)
    (d_plan_of : PySem.W.codeIn K cd22 "plan_of" = true)
    (k_plan_of : PySem.W.keepIn K (.ref f_plan_of) = true)
    (a_search : PySem.W.nsIn K mainGlobals "search" = some (some (.ref f_search)))
    (l_search : K.lookup f_search = some ⟨oc23, od23, .func (PySem.W.fnOf "search" "search" (defArgs s_search) (defBody s_search) (defScope s_search) .none kV23 dc23 pm23 an23 cd23 ct23), sl23⟩)
    (d_search : PySem.W.codeIn K cd23 "search" = true)
    (k_search : PySem.W.keepIn K (.ref f_search) = true)
    (a_times_from : PySem.W.nsIn K mainGlobals "times_from" = some (some (.ref f_times_from)))
    (l_times_from : K.lookup f_times_from = some ⟨oc24, od24, .func (PySem.W.fnOf "times_from" "times_from" (defArgs s_times_from) (defBody s_times_from) (defScope s_times_from) .none kV24 dc24 pm24 an24 cd24 ct24), sl24⟩)
    (d_times_from : PySem.W.codeIn K cd24 "times_from" = true)
    (k_times_from : PySem.W.keepIn K (.ref f_times_from) = true)
    (a_times_of : PySem.W.nsIn K mainGlobals "times_of" = some (some (.ref f_times_of)))
    (l_times_of : K.lookup f_times_of = some ⟨oc25, od25, .func (PySem.W.fnOf "times_of" "times_of" (defArgs s_times_of) (defBody s_times_of) (defScope s_times_of) .none kV25 dc25 pm25 an25 cd25 ct25), sl25⟩)
    (d_times_of : PySem.W.codeIn K cd25 "times_of" = true)
    (k_times_of : PySem.W.keepIn K (.ref f_times_of) = true)
    (a_pairs_of : PySem.W.nsIn K mainGlobals "pairs_of" = some (some (.ref f_pairs_of)))
    (l_pairs_of : K.lookup f_pairs_of = some ⟨oc26, od26, .func (PySem.W.fnOf "pairs_of" "pairs_of" (defArgs s_pairs_of) (defBody s_pairs_of) (defScope s_pairs_of) .none kV26 dc26 pm26 an26 cd26 ct26), sl26⟩)
    (d_pairs_of : PySem.W.codeIn K cd26 "pairs_of" = true)
    (k_pairs_of : PySem.W.keepIn K (.ref f_pairs_of) = true)
    (a_sums_between : PySem.W.nsIn K mainGlobals "sums_between" = some (some (.ref f_sums_between)))
    (l_sums_between : K.lookup f_sums_between = some ⟨oc27, od27, .func (PySem.W.fnOf "sums_between" "sums_between" (defArgs s_sums_between) (defBody s_sums_between) (defScope s_sums_between) .none kV27 dc27 pm27 an27 cd27 ct27), sl27⟩)
    (d_sums_between : PySem.W.codeIn K cd27 "sums_between" = true)
    (k_sums_between : PySem.W.keepIn K (.ref f_sums_between) = true)
    (a_closure : PySem.W.nsIn K mainGlobals "closure" = some (some (.ref f_closure)))
    (l_closure : K.lookup f_closure = some ⟨oc28, od28, .func (PySem.W.fnOf "closure" "closure" (defArgs s_closure) (defBody s_closure) (defScope s_closure) .none kV28 dc28 pm28 an28 cd28 ct28), sl28⟩)
    (d_closure : PySem.W.codeIn K cd28 "closure" = true)
    (k_closure : PySem.W.keepIn K (.ref f_closure) = true)
    (a_is_spare : PySem.W.nsIn K mainGlobals "is_spare" = some (some (.ref f_is_spare)))
    (l_is_spare : K.lookup f_is_spare = some ⟨oc29, od29, .func (PySem.W.fnOf "is_spare" "is_spare" (defArgs s_is_spare) (defBody s_is_spare) (defScope s_is_spare) .none kV29 dc29 pm29 an29 cd29 ct29), sl29⟩)
    (d_is_spare : PySem.W.codeIn K cd29 "is_spare" = true)
    (k_is_spare : PySem.W.keepIn K (.ref f_is_spare) = true)
    (a_reduced : PySem.W.nsIn K mainGlobals "reduced" = some (some (.ref f_reduced)))
    (l_reduced : K.lookup f_reduced = some ⟨oc30, od30, .func (PySem.W.fnOf "reduced" "reduced" (defArgs s_reduced) (defBody s_reduced) (defScope s_reduced) .none kV30 dc30 pm30 an30 cd30 ct30), sl30⟩)
    (d_reduced : PySem.W.codeIn K cd30 "reduced" = true)
    (k_reduced : PySem.W.keepIn K (.ref f_reduced) = true)
    (a_law_cell : PySem.W.nsIn K mainGlobals "_law_cell" = some (some (.ref f_law_cell)))
    (l_law_cell : K.lookup f_law_cell = some ⟨oc31, od31, .func (PySem.W.fnOf "_law_cell" "_law_cell" (defArgs s_law_cell) (defBody s_law_cell) (defScope s_law_cell) .none kV31 dc31 pm31 an31 cd31 ct31), sl31⟩)
    (d_law_cell : PySem.W.codeIn K cd31 "_law_cell" = true)
    (k_law_cell : PySem.W.keepIn K (.ref f_law_cell) = true)
    (a_law_box : PySem.W.nsIn K mainGlobals "_law_box" = some (some (.ref f_law_box)))
    (l_law_box : K.lookup f_law_box = some ⟨oc32, od32, .func (PySem.W.fnOf "_law_box" "_law_box" (defArgs s_law_box) (defBody s_law_box) (defScope s_law_box) .none kV32 dc32 pm32 an32 cd32 ct32), sl32⟩)
    (d_law_box : PySem.W.codeIn K cd32 "_law_box" = true)
    (k_law_box : PySem.W.keepIn K (.ref f_law_box) = true)
    (a_law_take : PySem.W.nsIn K mainGlobals "_law_take" = some (some (.ref f_law_take)))
    (l_law_take : K.lookup f_law_take = some ⟨oc33, od33, .func (PySem.W.fnOf "_law_take" "_law_take" (defArgs s_law_take) (defBody s_law_take) (defScope s_law_take) .none kV33 dc33 pm33 an33 cd33 ct33), sl33⟩)
    (d_law_take : PySem.W.codeIn K cd33 "_law_take" = true)
    (k_law_take : PySem.W.keepIn K (.ref f_law_take) = true)
    (a_law_mixed : PySem.W.nsIn K mainGlobals "_law_mixed" = some (some (.ref f_law_mixed)))
    (l_law_mixed : K.lookup f_law_mixed = some ⟨oc34, od34, .func (PySem.W.fnOf "_law_mixed" "_law_mixed" (defArgs s_law_mixed) (defBody s_law_mixed) (defScope s_law_mixed) .none kV34 dc34 pm34 an34 cd34 ct34), sl34⟩)
    (d_law_mixed : PySem.W.codeIn K cd34 "_law_mixed" = true)
    (k_law_mixed : PySem.W.keepIn K (.ref f_law_mixed) = true)
    (a_law_same : PySem.W.nsIn K mainGlobals "_law_same" = some (some (.ref f_law_same)))
    (l_law_same : K.lookup f_law_same = some ⟨oc35, od35, .func (PySem.W.fnOf "_law_same" "_law_same" (defArgs s_law_same) (defBody s_law_same) (defScope s_law_same) .none kV35 dc35 pm35 an35 cd35 ct35), sl35⟩)
    (d_law_same : PySem.W.codeIn K cd35 "_law_same" = true)
    (k_law_same : PySem.W.keepIn K (.ref f_law_same) = true)
    (a_law_times : PySem.W.nsIn K mainGlobals "_law_times" = some (some (.ref f_law_times)))
    (l_law_times : K.lookup f_law_times = some ⟨oc36, od36, .func (PySem.W.fnOf "_law_times" "_law_times" (defArgs s_law_times) (defBody s_law_times) (defScope s_law_times) .none kV36 dc36 pm36 an36 cd36 ct36), sl36⟩)
    (d_law_times : PySem.W.codeIn K cd36 "_law_times" = true)
    (k_law_times : PySem.W.keepIn K (.ref f_law_times) = true)
    (a_law_duration : PySem.W.nsIn K mainGlobals "_law_duration" = some (some (.ref f_law_duration)))
    (l_law_duration : K.lookup f_law_duration = some ⟨oc37, od37, .func (PySem.W.fnOf "_law_duration" "_law_duration" (defArgs s_law_duration) (defBody s_law_duration) (defScope s_law_duration) .none kV37 dc37 pm37 an37 cd37 ct37), sl37⟩)
    (d_law_duration : PySem.W.codeIn K cd37 "_law_duration" = true)
    (k_law_duration : PySem.W.keepIn K (.ref f_law_duration) = true)
    (a_law_steps : PySem.W.nsIn K mainGlobals "_law_steps" = some (some (.ref f_law_steps)))
    (l_law_steps : K.lookup f_law_steps = some ⟨oc38, od38, .func (PySem.W.fnOf "_law_steps" "_law_steps" (defArgs s_law_steps) (defBody s_law_steps) (defScope s_law_steps) .none kV38 dc38 pm38 an38 cd38 ct38), sl38⟩)
    (d_law_steps : PySem.W.codeIn K cd38 "_law_steps" = true)
    (k_law_steps : PySem.W.keepIn K (.ref f_law_steps) = true)
    (a_law_plan : PySem.W.nsIn K mainGlobals "_law_plan" = some (some (.ref f_law_plan)))
    (l_law_plan : K.lookup f_law_plan = some ⟨oc39, od39, .func (PySem.W.fnOf "_law_plan" "_law_plan" (defArgs s_law_plan) (defBody s_law_plan) (defScope s_law_plan) .none kV39 dc39 pm39 an39 cd39 ct39), sl39⟩)
    (d_law_plan : PySem.W.codeIn K cd39 "_law_plan" = true)
    (k_law_plan : PySem.W.keepIn K (.ref f_law_plan) = true)
    (a_law_bad_plan : PySem.W.nsIn K mainGlobals "_law_bad_plan" = some (some (.ref f_law_bad_plan)))
    (l_law_bad_plan : K.lookup f_law_bad_plan = some ⟨oc40, od40, .func (PySem.W.fnOf "_law_bad_plan" "_law_bad_plan" (defArgs s_law_bad_plan) (defBody s_law_bad_plan) (defScope s_law_bad_plan) .none kV40 dc40 pm40 an40 cd40 ct40), sl40⟩)
    (d_law_bad_plan : PySem.W.codeIn K cd40 "_law_bad_plan" = true)
    (k_law_bad_plan : PySem.W.keepIn K (.ref f_law_bad_plan) = true)
    (a_law_line : PySem.W.nsIn K mainGlobals "_law_line" = some (some (.ref f_law_line)))
    (l_law_line : K.lookup f_law_line = some ⟨oc41, od41, .func (PySem.W.fnOf "_law_line" "_law_line" (defArgs s_law_line) (defBody s_law_line) (defScope s_law_line) .none kV41 dc41 pm41 an41 cd41 ct41), sl41⟩)
    (d_law_line : PySem.W.codeIn K cd41 "_law_line" = true)
    (k_law_line : PySem.W.keepIn K (.ref f_law_line) = true)
    (a_law_even : PySem.W.nsIn K mainGlobals "_law_even" = some (some (.ref f_law_even)))
    (l_law_even : K.lookup f_law_even = some ⟨oc42, od42, .func (PySem.W.fnOf "_law_even" "_law_even" (defArgs s_law_even) (defBody s_law_even) (defScope s_law_even) .none kV42 dc42 pm42 an42 cd42 ct42), sl42⟩)
    (d_law_even : PySem.W.codeIn K cd42 "_law_even" = true)
    (k_law_even : PySem.W.keepIn K (.ref f_law_even) = true)
    (a_law_pairs : PySem.W.nsIn K mainGlobals "_law_pairs" = some (some (.ref f_law_pairs)))
    (l_law_pairs : K.lookup f_law_pairs = some ⟨oc43, od43, .func (PySem.W.fnOf "_law_pairs" "_law_pairs" (defArgs s_law_pairs) (defBody s_law_pairs) (defScope s_law_pairs) .none kV43 dc43 pm43 an43 cd43 ct43), sl43⟩)
    (d_law_pairs : PySem.W.codeIn K cd43 "_law_pairs" = true)
    (k_law_pairs : PySem.W.keepIn K (.ref f_law_pairs) = true)
    (a_law_reduced : PySem.W.nsIn K mainGlobals "_law_reduced" = some (some (.ref f_law_reduced)))
    (l_law_reduced : K.lookup f_law_reduced = some ⟨oc44, od44, .func (PySem.W.fnOf "_law_reduced" "_law_reduced" (defArgs s_law_reduced) (defBody s_law_reduced) (defScope s_law_reduced) .none kV44 dc44 pm44 an44 cd44 ct44), sl44⟩)
    (d_law_reduced : PySem.W.codeIn K cd44 "_law_reduced" = true)
    (k_law_reduced : PySem.W.keepIn K (.ref f_law_reduced) = true)
    (a_law_without : PySem.W.nsIn K mainGlobals "_law_without" = some (some (.ref f_law_without)))
    (l_law_without : K.lookup f_law_without = some ⟨oc45, od45, .func (PySem.W.fnOf "_law_without" "_law_without" (defArgs s_law_without) (defBody s_law_without) (defScope s_law_without) .none kV45 dc45 pm45 an45 cd45 ct45), sl45⟩)
    (d_law_without : PySem.W.codeIn K cd45 "_law_without" = true)
    (k_law_without : PySem.W.keepIn K (.ref f_law_without) = true)
    (a_law_asked : PySem.W.nsIn K mainGlobals "_law_asked" = some (some (.ref f_law_asked)))
    (l_law_asked : K.lookup f_law_asked = some ⟨oc46, od46, .func (PySem.W.fnOf "_law_asked" "_law_asked" (defArgs s_law_asked) (defBody s_law_asked) (defScope s_law_asked) .none kV46 dc46 pm46 an46 cd46 ct46), sl46⟩)
    (d_law_asked : PySem.W.codeIn K cd46 "_law_asked" = true)
    (k_law_asked : PySem.W.keepIn K (.ref f_law_asked) = true)
    (a_law_plan_right : PySem.W.nsIn K mainGlobals "_law_plan_right" = some (some (.ref f_law_plan_right)))
    (l_law_plan_right : K.lookup f_law_plan_right = some ⟨oc47, od47, .func (PySem.W.fnOf "_law_plan_right" "_law_plan_right" (defArgs s_law_plan_right) (defBody s_law_plan_right) (defScope s_law_plan_right) .none kV47 dc47 pm47 an47 cd47 ct47), sl47⟩)
    (d_law_plan_right : PySem.W.codeIn K cd47 "_law_plan_right" = true)
    (k_law_plan_right : PySem.W.keepIn K (.ref f_law_plan_right) = true)
    (a_law_spare_right : PySem.W.nsIn K mainGlobals "_law_spare_right" = some (some (.ref f_law_spare_right)))
    (l_law_spare_right : K.lookup f_law_spare_right = some ⟨oc48, od48, .func (PySem.W.fnOf "_law_spare_right" "_law_spare_right" (defArgs s_law_spare_right) (defBody s_law_spare_right) (defScope s_law_spare_right) .none kV48 dc48 pm48 an48 cd48 ct48), sl48⟩)
    (d_law_spare_right : PySem.W.codeIn K cd48 "_law_spare_right" = true)
    (k_law_spare_right : PySem.W.keepIn K (.ref f_law_spare_right) = true)
    (a_law_refused_right : PySem.W.nsIn K mainGlobals "_law_refused_right" = some (some (.ref f_law_refused_right)))
    (l_law_refused_right : K.lookup f_law_refused_right = some ⟨oc49, od49, .func (PySem.W.fnOf "_law_refused_right" "_law_refused_right" (defArgs s_law_refused_right) (defBody s_law_refused_right) (defScope s_law_refused_right) .none kV49 dc49 pm49 an49 cd49 ct49), sl49⟩)
    (d_law_refused_right : PySem.W.codeIn K cd49 "_law_refused_right" = true)
    (k_law_refused_right : PySem.W.keepIn K (.ref f_law_refused_right) = true)
    (a_law : PySem.W.nsIn K mainGlobals "law" = some (some (.ref f_law)))
    (l_law : K.lookup f_law = some ⟨oc50, od50, .func (PySem.W.fnOf "law" "law" (defArgs s_law) (defBody s_law) (defScope s_law) .none kV50 dc50 pm50 an50 cd50 ct50), sl50⟩)
    (d_law : PySem.W.codeIn K cd50 "law" = true)
    (k_law : PySem.W.keepIn K (.ref f_law) = true) :
    ∃ fd : FuncData, (∀ (s : Shared) (v : Value), BindsTo s fd ⟨[v], []⟩ [("script", v)]) ∧ ∀ base : Heap, K.In base → base.Ns mainGlobals mg → FnOk P w K mg base CX0 10 fa fd ["script"] (spLaw K) := by
  have e := hfa.symm.trans (PySem.W.mg_of X G a_law)
  cases e
  let T : TX K mg := {
    z_abs := PySem.W.mg_none_of X G Zabs,
    z_all := PySem.W.mg_none_of X G Zall,
    z_bool := PySem.W.mg_none_of X G Zbool,
    z_enumerate := PySem.W.mg_none_of X G Zenumerate,
    z_int := PySem.W.mg_none_of X G Zint,
    z_isinstance := PySem.W.mg_none_of X G Zisinstance,
    z_len := PySem.W.mg_none_of X G Zlen,
    z_list := PySem.W.mg_none_of X G Zlist,
    z_max := PySem.W.mg_none_of X G Zmax,
    z_min := PySem.W.mg_none_of X G Zmin,
    z_range := PySem.W.mg_none_of X G Zrange,
    z_sorted := PySem.W.mg_none_of X G Zsorted,
    z_str := PySem.W.mg_none_of X G Zstr,
    z_sum := PySem.W.mg_none_of X G Zsum,
    z_tuple := PySem.W.mg_none_of X G Ztuple,
    t_MOST_EVENTS := t_MOST_EVENTS,
    g_MOST_EVENTS := PySem.W.mg_of X G AMOST_EVENTS,
    t_MOST_ACTIVITIES := t_MOST_ACTIVITIES,
    g_MOST_ACTIVITIES := PySem.W.mg_of X G AMOST_ACTIVITIES,
    c_PlanError := c_PlanError,
    gc_PlanError := PySem.W.mg_of X G aPlanError,
    p_PlanError := ⟨PySem.W.mg_of X G aPlanError, kPlanError, gPlanError, _, rPlanError, iPlanError⟩,
    c_InvalidPlan := c_InvalidPlan, gc_InvalidPlan := PySem.W.mg_of X G aInvalidPlan, o_InvalidPlan := ⟨⟨_, _, _, _, _, _, _, _, _, _, _, _, _, _, _, xInvalidPlan, by rfl⟩, saInvalidPlan, ecInvalidPlan, tcInvalidPlan, kcInvalidPlan⟩, x_InvalidPlan := ⟨gaInvalidPlan, ggInvalidPlan, ecInvalidPlan, hdInvalidPlan⟩,
    fi_InvalidPlan := fi_InvalidPlan, fdi_InvalidPlan := PySem.W.fnOf "__init__" "InvalidPlan.__init__" (defArgs s_init_InvalidPlan) (defBody s_init_InvalidPlan) (defScope s_init_InvalidPlan) .none kV2 dc2 pm2 an2 cd2 ct2, Fi_InvalidPlan := fun_mk (st := s_init_InvalidPlan) l_init_InvalidPlan d_init_InvalidPlan k_init_InvalidPlan, i_InvalidPlan := iInvalidPlan, ti_InvalidPlan := tInvalidPlan, nf_InvalidPlan := nbInvalidPlan,
    c_InvalidActivity := c_InvalidActivity, gc_InvalidActivity := PySem.W.mg_of X G aInvalidActivity, o_InvalidActivity := ⟨⟨_, _, _, _, _, _, _, _, _, _, _, _, _, _, _, xInvalidActivity, by rfl⟩, saInvalidActivity, ecInvalidActivity, tcInvalidActivity, kcInvalidActivity⟩, x_InvalidActivity := ⟨gaInvalidActivity, ggInvalidActivity, ecInvalidActivity, hdInvalidActivity⟩,
    fi_InvalidActivity := fi_InvalidActivity, fdi_InvalidActivity := PySem.W.fnOf "__init__" "InvalidActivity.__init__" (defArgs s_init_InvalidActivity) (defBody s_init_InvalidActivity) (defScope s_init_InvalidActivity) .none kV4 dc4 pm4 an4 cd4 ct4, Fi_InvalidActivity := fun_mk (st := s_init_InvalidActivity) l_init_InvalidActivity d_init_InvalidActivity k_init_InvalidActivity, i_InvalidActivity := iInvalidActivity, ti_InvalidActivity := tInvalidActivity, nf_InvalidActivity := nbInvalidActivity,
    c_TooMany := c_TooMany, gc_TooMany := PySem.W.mg_of X G aTooMany, o_TooMany := ⟨⟨_, _, _, _, _, _, _, _, _, _, _, _, _, _, _, xTooMany, by rfl⟩, saTooMany, ecTooMany, tcTooMany, kcTooMany⟩, x_TooMany := ⟨gaTooMany, ggTooMany, ecTooMany, hdTooMany⟩,
    fi_TooMany := fi_TooMany, fdi_TooMany := PySem.W.fnOf "__init__" "TooMany.__init__" (defArgs s_init_TooMany) (defBody s_init_TooMany) (defScope s_init_TooMany) .none kV6 dc6 pm6 an6 cd6 ct6, Fi_TooMany := fun_mk (st := s_init_TooMany) l_init_TooMany d_init_TooMany k_init_TooMany, i_TooMany := iTooMany, ti_TooMany := tTooMany, nf_TooMany := nbTooMany,
    e_InvalidPlan_InvalidPlan := PySem.W.exm_ref ecInvalidPlan hdInvalidPlan tcInvalidPlan s_e_InvalidPlan_InvalidPlan,
    e_InvalidActivity_InvalidPlan := PySem.W.exm_ref ecInvalidPlan hdInvalidPlan tcInvalidPlan s_e_InvalidActivity_InvalidPlan,
    e_InvalidActivity_InvalidActivity := PySem.W.exm_ref ecInvalidActivity hdInvalidActivity tcInvalidActivity s_e_InvalidActivity_InvalidActivity,
    e_TooMany_InvalidPlan := PySem.W.exm_ref ecInvalidPlan hdInvalidPlan tcInvalidPlan s_e_TooMany_InvalidPlan,
    e_TooMany_InvalidActivity := PySem.W.exm_ref ecInvalidActivity hdInvalidActivity tcInvalidActivity s_e_TooMany_InvalidActivity,
    e_TooMany_TooMany := PySem.W.exm_ref ecTooMany hdTooMany tcTooMany s_e_TooMany_TooMany,
    f_is_integer := f_is_integer, fd_is_integer := PySem.W.fnOf "is_integer" "is_integer" (defArgs s_is_integer) (defBody s_is_integer) (defScope s_is_integer) .none kV7 dc7 pm7 an7 cd7 ct7, F_is_integer := fun_mk (st := s_is_integer) l_is_integer d_is_integer k_is_integer, g_is_integer := PySem.W.mg_of X G a_is_integer,
    f_is_count := f_is_count, fd_is_count := PySem.W.fnOf "is_count" "is_count" (defArgs s_is_count) (defBody s_is_count) (defScope s_is_count) .none kV8 dc8 pm8 an8 cd8 ct8, F_is_count := fun_mk (st := s_is_count) l_is_count d_is_count k_is_count, g_is_count := PySem.W.mg_of X G a_is_count,
    f_is_within := f_is_within, fd_is_within := PySem.W.fnOf "is_within" "is_within" (defArgs s_is_within) (defBody s_is_within) (defScope s_is_within) .none kV9 dc9 pm9 an9 cd9 ct9, F_is_within := fun_mk (st := s_is_within) l_is_within d_is_within k_is_within, g_is_within := PySem.W.mg_of X G a_is_within,
    f_is_index := f_is_index, fd_is_index := PySem.W.fnOf "is_index" "is_index" (defArgs s_is_index) (defBody s_is_index) (defScope s_is_index) .none kV10 dc10 pm10 an10 cd10 ct10, F_is_index := fun_mk (st := s_is_index) l_is_index d_is_index k_is_index, g_is_index := PySem.W.mg_of X G a_is_index,
    f_is_tuple := f_is_tuple, fd_is_tuple := PySem.W.fnOf "is_tuple" "is_tuple" (defArgs s_is_tuple) (defBody s_is_tuple) (defScope s_is_tuple) .none kV11 dc11 pm11 an11 cd11 ct11, F_is_tuple := fun_mk (st := s_is_tuple) l_is_tuple d_is_tuple k_is_tuple, g_is_tuple := PySem.W.mg_of X G a_is_tuple,
    f_in_order := f_in_order, fd_in_order := PySem.W.fnOf "in_order" "in_order" (defArgs s_in_order) (defBody s_in_order) (defScope s_in_order) .none kV12 dc12 pm12 an12 cd12 ct12, F_in_order := fun_mk (st := s_in_order) l_in_order d_in_order k_in_order, g_in_order := PySem.W.mg_of X G a_in_order,
    f_plus := f_plus, fd_plus := PySem.W.fnOf "plus" "plus" (defArgs s_plus) (defBody s_plus) (defScope s_plus) .none kV13 dc13 pm13 an13 cd13 ct13, F_plus := fun_mk (st := s_plus) l_plus d_plus k_plus, g_plus := PySem.W.mg_of X G a_plus,
    f_is_later := f_is_later, fd_is_later := PySem.W.fnOf "is_later" "is_later" (defArgs s_is_later) (defBody s_is_later) (defScope s_is_later) .none kV14 dc14 pm14 an14 cd14 ct14, F_is_later := fun_mk (st := s_is_later) l_is_later d_is_later k_is_later, g_is_later := PySem.W.mg_of X G a_is_later,
    f_is_activity := f_is_activity, fd_is_activity := PySem.W.fnOf "is_activity" "is_activity" (defArgs s_is_activity) (defBody s_is_activity) (defScope s_is_activity) .none kV15 dc15 pm15 an15 cd15 ct15, F_is_activity := fun_mk (st := s_is_activity) l_is_activity d_is_activity k_is_activity, g_is_activity := PySem.W.mg_of X G a_is_activity,
    f_are_activities := f_are_activities, fd_are_activities := PySem.W.fnOf "are_activities" "are_activities" (defArgs s_are_activities) (defBody s_are_activities) (defScope s_are_activities) .none kV16 dc16 pm16 an16 cd16 ct16, F_are_activities := fun_mk (st := s_are_activities) l_are_activities d_are_activities k_are_activities, g_are_activities := PySem.W.mg_of X G a_are_activities,
    f_coming_to := f_coming_to, fd_coming_to := PySem.W.fnOf "coming_to" "coming_to" (defArgs s_coming_to) (defBody s_coming_to) (defScope s_coming_to) .none kV17 dc17 pm17 an17 cd17 ct17, F_coming_to := fun_mk (st := s_coming_to) l_coming_to d_coming_to k_coming_to, g_coming_to := PySem.W.mg_of X G a_coming_to,
    f_sorted_events := f_sorted_events, fd_sorted_events := PySem.W.fnOf "sorted_events" "sorted_events" (defArgs s_sorted_events) (defBody s_sorted_events) (defScope s_sorted_events) .none kV18 dc18 pm18 an18 cd18 ct18, F_sorted_events := fun_mk (st := s_sorted_events) l_sorted_events d_sorted_events k_sorted_events, g_sorted_events := PySem.W.mg_of X G a_sorted_events,
    f_has_ring := f_has_ring, fd_has_ring := PySem.W.fnOf "has_ring" "has_ring" (defArgs s_has_ring) (defBody s_has_ring) (defScope s_has_ring) .none kV19 dc19 pm19 an19 cd19 ct19, F_has_ring := fun_mk (st := s_has_ring) l_has_ring d_has_ring k_has_ring, g_has_ring := PySem.W.mg_of X G a_has_ring,
    f_is_plan := f_is_plan, fd_is_plan := PySem.W.fnOf "is_plan" "is_plan" (defArgs s_is_plan) (defBody s_is_plan) (defScope s_is_plan) .none kV20 dc20 pm20 an20 cd20 ct20, F_is_plan := fun_mk (st := s_is_plan) l_is_plan d_is_plan k_is_plan, g_is_plan := PySem.W.mg_of X G a_is_plan,
    f_check_plan := f_check_plan, fd_check_plan := PySem.W.fnOf "check_plan" "check_plan" (defArgs s_check_plan) (defBody s_check_plan) (defScope s_check_plan) .none kV21 dc21 pm21 an21 cd21 ct21, F_check_plan := fun_mk (st := s_check_plan) l_check_plan d_check_plan k_check_plan, g_check_plan := PySem.W.mg_of X G a_check_plan,
    f_plan_of := f_plan_of, fd_plan_of := PySem.W.fnOf "plan_of" "plan_of" (defArgs s_plan_of) (defBody s_plan_of) (defScope s_plan_of) .none kV22 dc22 pm22 an22 cd22 ct22, F_plan_of := fun_mk (st := s_plan_of) l_plan_of d_plan_of k_plan_of, g_plan_of := PySem.W.mg_of X G a_plan_of,
    f_search := f_search, fd_search := PySem.W.fnOf "search" "search" (defArgs s_search) (defBody s_search) (defScope s_search) .none kV23 dc23 pm23 an23 cd23 ct23, F_search := fun_mk (st := s_search) l_search d_search k_search, g_search := PySem.W.mg_of X G a_search,
    f_times_from := f_times_from, fd_times_from := PySem.W.fnOf "times_from" "times_from" (defArgs s_times_from) (defBody s_times_from) (defScope s_times_from) .none kV24 dc24 pm24 an24 cd24 ct24, F_times_from := fun_mk (st := s_times_from) l_times_from d_times_from k_times_from, g_times_from := PySem.W.mg_of X G a_times_from,
    f_times_of := f_times_of, fd_times_of := PySem.W.fnOf "times_of" "times_of" (defArgs s_times_of) (defBody s_times_of) (defScope s_times_of) .none kV25 dc25 pm25 an25 cd25 ct25, F_times_of := fun_mk (st := s_times_of) l_times_of d_times_of k_times_of, g_times_of := PySem.W.mg_of X G a_times_of,
    f_pairs_of := f_pairs_of, fd_pairs_of := PySem.W.fnOf "pairs_of" "pairs_of" (defArgs s_pairs_of) (defBody s_pairs_of) (defScope s_pairs_of) .none kV26 dc26 pm26 an26 cd26 ct26, F_pairs_of := fun_mk (st := s_pairs_of) l_pairs_of d_pairs_of k_pairs_of, g_pairs_of := PySem.W.mg_of X G a_pairs_of,
    f_sums_between := f_sums_between, fd_sums_between := PySem.W.fnOf "sums_between" "sums_between" (defArgs s_sums_between) (defBody s_sums_between) (defScope s_sums_between) .none kV27 dc27 pm27 an27 cd27 ct27, F_sums_between := fun_mk (st := s_sums_between) l_sums_between d_sums_between k_sums_between, g_sums_between := PySem.W.mg_of X G a_sums_between,
    f_closure := f_closure, fd_closure := PySem.W.fnOf "closure" "closure" (defArgs s_closure) (defBody s_closure) (defScope s_closure) .none kV28 dc28 pm28 an28 cd28 ct28, F_closure := fun_mk (st := s_closure) l_closure d_closure k_closure, g_closure := PySem.W.mg_of X G a_closure,
    f_is_spare := f_is_spare, fd_is_spare := PySem.W.fnOf "is_spare" "is_spare" (defArgs s_is_spare) (defBody s_is_spare) (defScope s_is_spare) .none kV29 dc29 pm29 an29 cd29 ct29, F_is_spare := fun_mk (st := s_is_spare) l_is_spare d_is_spare k_is_spare, g_is_spare := PySem.W.mg_of X G a_is_spare,
    f_reduced := f_reduced, fd_reduced := PySem.W.fnOf "reduced" "reduced" (defArgs s_reduced) (defBody s_reduced) (defScope s_reduced) .none kV30 dc30 pm30 an30 cd30 ct30, F_reduced := fun_mk (st := s_reduced) l_reduced d_reduced k_reduced, g_reduced := PySem.W.mg_of X G a_reduced,
    f_law_cell := f_law_cell, fd_law_cell := PySem.W.fnOf "_law_cell" "_law_cell" (defArgs s_law_cell) (defBody s_law_cell) (defScope s_law_cell) .none kV31 dc31 pm31 an31 cd31 ct31, F_law_cell := fun_mk (st := s_law_cell) l_law_cell d_law_cell k_law_cell, g_law_cell := PySem.W.mg_of X G a_law_cell,
    f_law_box := f_law_box, fd_law_box := PySem.W.fnOf "_law_box" "_law_box" (defArgs s_law_box) (defBody s_law_box) (defScope s_law_box) .none kV32 dc32 pm32 an32 cd32 ct32, F_law_box := fun_mk (st := s_law_box) l_law_box d_law_box k_law_box, g_law_box := PySem.W.mg_of X G a_law_box,
    f_law_take := f_law_take, fd_law_take := PySem.W.fnOf "_law_take" "_law_take" (defArgs s_law_take) (defBody s_law_take) (defScope s_law_take) .none kV33 dc33 pm33 an33 cd33 ct33, F_law_take := fun_mk (st := s_law_take) l_law_take d_law_take k_law_take, g_law_take := PySem.W.mg_of X G a_law_take,
    f_law_mixed := f_law_mixed, fd_law_mixed := PySem.W.fnOf "_law_mixed" "_law_mixed" (defArgs s_law_mixed) (defBody s_law_mixed) (defScope s_law_mixed) .none kV34 dc34 pm34 an34 cd34 ct34, F_law_mixed := fun_mk (st := s_law_mixed) l_law_mixed d_law_mixed k_law_mixed, g_law_mixed := PySem.W.mg_of X G a_law_mixed,
    f_law_same := f_law_same, fd_law_same := PySem.W.fnOf "_law_same" "_law_same" (defArgs s_law_same) (defBody s_law_same) (defScope s_law_same) .none kV35 dc35 pm35 an35 cd35 ct35, F_law_same := fun_mk (st := s_law_same) l_law_same d_law_same k_law_same, g_law_same := PySem.W.mg_of X G a_law_same,
    f_law_times := f_law_times, fd_law_times := PySem.W.fnOf "_law_times" "_law_times" (defArgs s_law_times) (defBody s_law_times) (defScope s_law_times) .none kV36 dc36 pm36 an36 cd36 ct36, F_law_times := fun_mk (st := s_law_times) l_law_times d_law_times k_law_times, g_law_times := PySem.W.mg_of X G a_law_times,
    f_law_duration := f_law_duration, fd_law_duration := PySem.W.fnOf "_law_duration" "_law_duration" (defArgs s_law_duration) (defBody s_law_duration) (defScope s_law_duration) .none kV37 dc37 pm37 an37 cd37 ct37, F_law_duration := fun_mk (st := s_law_duration) l_law_duration d_law_duration k_law_duration, g_law_duration := PySem.W.mg_of X G a_law_duration,
    f_law_steps := f_law_steps, fd_law_steps := PySem.W.fnOf "_law_steps" "_law_steps" (defArgs s_law_steps) (defBody s_law_steps) (defScope s_law_steps) .none kV38 dc38 pm38 an38 cd38 ct38, F_law_steps := fun_mk (st := s_law_steps) l_law_steps d_law_steps k_law_steps, g_law_steps := PySem.W.mg_of X G a_law_steps,
    f_law_plan := f_law_plan, fd_law_plan := PySem.W.fnOf "_law_plan" "_law_plan" (defArgs s_law_plan) (defBody s_law_plan) (defScope s_law_plan) .none kV39 dc39 pm39 an39 cd39 ct39, F_law_plan := fun_mk (st := s_law_plan) l_law_plan d_law_plan k_law_plan, g_law_plan := PySem.W.mg_of X G a_law_plan,
    f_law_bad_plan := f_law_bad_plan, fd_law_bad_plan := PySem.W.fnOf "_law_bad_plan" "_law_bad_plan" (defArgs s_law_bad_plan) (defBody s_law_bad_plan) (defScope s_law_bad_plan) .none kV40 dc40 pm40 an40 cd40 ct40, F_law_bad_plan := fun_mk (st := s_law_bad_plan) l_law_bad_plan d_law_bad_plan k_law_bad_plan, g_law_bad_plan := PySem.W.mg_of X G a_law_bad_plan,
    f_law_line := f_law_line, fd_law_line := PySem.W.fnOf "_law_line" "_law_line" (defArgs s_law_line) (defBody s_law_line) (defScope s_law_line) .none kV41 dc41 pm41 an41 cd41 ct41, F_law_line := fun_mk (st := s_law_line) l_law_line d_law_line k_law_line, g_law_line := PySem.W.mg_of X G a_law_line,
    f_law_even := f_law_even, fd_law_even := PySem.W.fnOf "_law_even" "_law_even" (defArgs s_law_even) (defBody s_law_even) (defScope s_law_even) .none kV42 dc42 pm42 an42 cd42 ct42, F_law_even := fun_mk (st := s_law_even) l_law_even d_law_even k_law_even, g_law_even := PySem.W.mg_of X G a_law_even,
    f_law_pairs := f_law_pairs, fd_law_pairs := PySem.W.fnOf "_law_pairs" "_law_pairs" (defArgs s_law_pairs) (defBody s_law_pairs) (defScope s_law_pairs) .none kV43 dc43 pm43 an43 cd43 ct43, F_law_pairs := fun_mk (st := s_law_pairs) l_law_pairs d_law_pairs k_law_pairs, g_law_pairs := PySem.W.mg_of X G a_law_pairs,
    f_law_reduced := f_law_reduced, fd_law_reduced := PySem.W.fnOf "_law_reduced" "_law_reduced" (defArgs s_law_reduced) (defBody s_law_reduced) (defScope s_law_reduced) .none kV44 dc44 pm44 an44 cd44 ct44, F_law_reduced := fun_mk (st := s_law_reduced) l_law_reduced d_law_reduced k_law_reduced, g_law_reduced := PySem.W.mg_of X G a_law_reduced,
    f_law_without := f_law_without, fd_law_without := PySem.W.fnOf "_law_without" "_law_without" (defArgs s_law_without) (defBody s_law_without) (defScope s_law_without) .none kV45 dc45 pm45 an45 cd45 ct45, F_law_without := fun_mk (st := s_law_without) l_law_without d_law_without k_law_without, g_law_without := PySem.W.mg_of X G a_law_without,
    f_law_asked := f_law_asked, fd_law_asked := PySem.W.fnOf "_law_asked" "_law_asked" (defArgs s_law_asked) (defBody s_law_asked) (defScope s_law_asked) .none kV46 dc46 pm46 an46 cd46 ct46, F_law_asked := fun_mk (st := s_law_asked) l_law_asked d_law_asked k_law_asked, g_law_asked := PySem.W.mg_of X G a_law_asked,
    f_law_plan_right := f_law_plan_right, fd_law_plan_right := PySem.W.fnOf "_law_plan_right" "_law_plan_right" (defArgs s_law_plan_right) (defBody s_law_plan_right) (defScope s_law_plan_right) .none kV47 dc47 pm47 an47 cd47 ct47, F_law_plan_right := fun_mk (st := s_law_plan_right) l_law_plan_right d_law_plan_right k_law_plan_right, g_law_plan_right := PySem.W.mg_of X G a_law_plan_right,
    f_law_spare_right := f_law_spare_right, fd_law_spare_right := PySem.W.fnOf "_law_spare_right" "_law_spare_right" (defArgs s_law_spare_right) (defBody s_law_spare_right) (defScope s_law_spare_right) .none kV48 dc48 pm48 an48 cd48 ct48, F_law_spare_right := fun_mk (st := s_law_spare_right) l_law_spare_right d_law_spare_right k_law_spare_right, g_law_spare_right := PySem.W.mg_of X G a_law_spare_right,
    f_law_refused_right := f_law_refused_right, fd_law_refused_right := PySem.W.fnOf "_law_refused_right" "_law_refused_right" (defArgs s_law_refused_right) (defBody s_law_refused_right) (defScope s_law_refused_right) .none kV49 dc49 pm49 an49 cd49 ct49, F_law_refused_right := fun_mk (st := s_law_refused_right) l_law_refused_right d_law_refused_right k_law_refused_right, g_law_refused_right := PySem.W.mg_of X G a_law_refused_right,
    f_law := fa, fd_law := PySem.W.fnOf "law" "law" (defArgs s_law) (defBody s_law) (defScope s_law) .none kV50 dc50 pm50 an50 cd50 ct50, F_law := fun_mk (st := s_law) l_law d_law k_law, g_law := PySem.W.mg_of X G a_law }
  exact ⟨PySem.W.fnOf "law" "law" (defArgs s_law) (defBody s_law) (defScope s_law) .none kV50 dc50 pm50 an50 cd50 ct50, fun s v => .of_eq rfl, fun base _ _ => ok_law T⟩
theorem walk {l : PySem.W.OpenLaw} {q : Program} {loose : List Str} {XP : (Str → Option Value) → Heap → Prop} {YP : World → Heap → Prop} {d : DefRec} {K : Params → PySem.W.Frag} (hn : l.most = some 63) (hdf : d.params.defaults = [])
    (hY : ∀ (w : World) (h : Heap), YP w h → (K w.params).In h)
    (F : ∀ (w : World) (mg : Str → Option Value) (fa : Addr) (h : Heap), (K w.params).In h → h.Ns mainGlobals mg → mg d.name = some (.ref fa) →
      ∃ fd : FuncData, (∀ (s : Shared) (u : Value), BindsTo s fd ⟨[u], []⟩ [("script", u)]) ∧ ∀ base : Heap, (K w.params).In base → base.Ns mainGlobals mg → FnOk l.prog w (K w.params) mg base CX0 10 fa fd ["script"] (spLaw (K w.params))) :
    PySem.W.WalkO q loose XP YP l.row.toRowW d [] (fun f vs => PySem.call f vs) :=
  L2.walk_of (n := 63) (k := 10) (x := "script") (CX := fun _ => CX0) (sp := fun w => spLaw (K w.params)) hn (by decide) hdf ⟨rfl, by decide, by decide⟩ hY F (fun _ _ a ns hl _ hS => ⟨a, ns, rfl, hS, fun _ => rfl⟩) fun _ _ _ _ _ z => z
end A69
end

/-! END69: the statement. Printed by head69.py. -/
open PySem PySem.W PyProof.Rows in
set_option maxRecDepth 100000 in
set_option maxHeartbeats 0 in
theorem PySem.Challenge.cw_planwide_k69_whole_closed_and_reduced_pl_holds : PySem.Challenge.rw_planwide_k69_whole_closed_and_reduced_pl.Holds := by
  w_on; o_law; k_head; (case hw => w_witness2)
  k_fill
  refine A69.walk (l := PySem.Challenge.rw_planwide_k69_whole_closed_and_reduced_pl) rfl rfl (fun w h Y => PySem.W.kIn_of Y) ?F
  case F =>
    intro w mg fa h KX G hmg
    refine' A69.all_mk KX G hmg ?Zabs ?Zall ?Zbool ?Zenumerate ?Zint ?Zisinstance ?Zlen ?Zlist ?Zmax ?Zmin ?Zrange ?Zsorted ?Zstr ?Zsum ?Ztuple ?AMOST_EVENTS ?AMOST_ACTIVITIES ?aPlanError ?kPlanError ?gPlanError ?rPlanError ?iPlanError ?aInvalidPlan ?xInvalidPlan ?saInvalidPlan ?gaInvalidPlan ?ggInvalidPlan ?nbInvalidPlan ?iInvalidPlan ?tInvalidPlan ?l_init_InvalidPlan ?d_init_InvalidPlan ?k_init_InvalidPlan ?kcInvalidPlan ?ecInvalidPlan ?tcInvalidPlan ?hdInvalidPlan ?aInvalidActivity ?xInvalidActivity ?saInvalidActivity ?gaInvalidActivity ?ggInvalidActivity ?nbInvalidActivity ?iInvalidActivity ?tInvalidActivity ?l_init_InvalidActivity ?d_init_InvalidActivity ?k_init_InvalidActivity ?kcInvalidActivity ?ecInvalidActivity ?tcInvalidActivity ?hdInvalidActivity ?aTooMany ?xTooMany ?saTooMany ?gaTooMany ?ggTooMany ?nbTooMany ?iTooMany ?tTooMany ?l_init_TooMany ?d_init_TooMany ?k_init_TooMany ?kcTooMany ?ecTooMany ?tcTooMany ?hdTooMany ?s_e_InvalidPlan_InvalidPlan ?s_e_InvalidActivity_InvalidPlan ?s_e_InvalidActivity_InvalidActivity ?s_e_TooMany_InvalidPlan ?s_e_TooMany_InvalidActivity ?s_e_TooMany_TooMany ?a_is_integer ?l_is_integer ?d_is_integer ?k_is_integer ?a_is_count ?l_is_count ?d_is_count ?k_is_count ?a_is_within ?l_is_within ?d_is_within ?k_is_within ?a_is_index ?l_is_index ?d_is_index ?k_is_index ?a_is_tuple ?l_is_tuple ?d_is_tuple ?k_is_tuple ?a_in_order ?l_in_order ?d_in_order ?k_in_order ?a_plus ?l_plus ?d_plus ?k_plus ?a_is_later ?l_is_later ?d_is_later ?k_is_later ?a_is_activity ?l_is_activity ?d_is_activity ?k_is_activity ?a_are_activities ?l_are_activities ?d_are_activities ?k_are_activities ?a_coming_to ?l_coming_to ?d_coming_to ?k_coming_to ?a_sorted_events ?l_sorted_events ?d_sorted_events ?k_sorted_events ?a_has_ring ?l_has_ring ?d_has_ring ?k_has_ring ?a_is_plan ?l_is_plan ?d_is_plan ?k_is_plan ?a_check_plan ?l_check_plan ?d_check_plan ?k_check_plan ?a_plan_of ?l_plan_of ?d_plan_of ?k_plan_of ?a_search ?l_search ?d_search ?k_search ?a_times_from ?l_times_from ?d_times_from ?k_times_from ?a_times_of ?l_times_of ?d_times_of ?k_times_of ?a_pairs_of ?l_pairs_of ?d_pairs_of ?k_pairs_of ?a_sums_between ?l_sums_between ?d_sums_between ?k_sums_between ?a_closure ?l_closure ?d_closure ?k_closure ?a_is_spare ?l_is_spare ?d_is_spare ?k_is_spare ?a_reduced ?l_reduced ?d_reduced ?k_reduced ?a_law_cell ?l_law_cell ?d_law_cell ?k_law_cell ?a_law_box ?l_law_box ?d_law_box ?k_law_box ?a_law_take ?l_law_take ?d_law_take ?k_law_take ?a_law_mixed ?l_law_mixed ?d_law_mixed ?k_law_mixed ?a_law_same ?l_law_same ?d_law_same ?k_law_same ?a_law_times ?l_law_times ?d_law_times ?k_law_times ?a_law_duration ?l_law_duration ?d_law_duration ?k_law_duration ?a_law_steps ?l_law_steps ?d_law_steps ?k_law_steps ?a_law_plan ?l_law_plan ?d_law_plan ?k_law_plan ?a_law_bad_plan ?l_law_bad_plan ?d_law_bad_plan ?k_law_bad_plan ?a_law_line ?l_law_line ?d_law_line ?k_law_line ?a_law_even ?l_law_even ?d_law_even ?k_law_even ?a_law_pairs ?l_law_pairs ?d_law_pairs ?k_law_pairs ?a_law_reduced ?l_law_reduced ?d_law_reduced ?k_law_reduced ?a_law_without ?l_law_without ?d_law_without ?k_law_without ?a_law_asked ?l_law_asked ?d_law_asked ?k_law_asked ?a_law_plan_right ?l_law_plan_right ?d_law_plan_right ?k_law_plan_right ?a_law_spare_right ?l_law_spare_right ?d_law_spare_right ?k_law_spare_right ?a_law_refused_right ?l_law_refused_right ?d_law_refused_right ?k_law_refused_right ?a_law ?l_law ?d_law ?k_law
    (case Zabs => k_is)
    (case Zall => k_is)
    (case Zbool => k_is)
    (case Zenumerate => k_is)
    (case Zint => k_is)
    (case Zisinstance => k_is)
    (case Zlen => k_is)
    (case Zlist => k_is)
    (case Zmax => k_is)
    (case Zmin => k_is)
    (case Zrange => k_is)
    (case Zsorted => k_is)
    (case Zstr => k_is)
    (case Zsum => k_is)
    (case Ztuple => k_is)
    (case AMOST_EVENTS => k_is)
    (case AMOST_ACTIVITIES => k_is)
    (case aPlanError => k_is)
    (case kPlanError => k_is)
    (case gPlanError => k_is)
    (case rPlanError => k_is)
    (case iPlanError => k_is)
    (case aInvalidPlan => k_is)
    (case xInvalidPlan => k_is)
    (case saInvalidPlan => k_is)
    (case gaInvalidPlan => k_is)
    (case ggInvalidPlan => k_is)
    (case nbInvalidPlan => k_is)
    (case iInvalidPlan => k_is)
    (case tInvalidPlan => k_is)
    (case l_init_InvalidPlan => k_is)
    (case d_init_InvalidPlan => k_is)
    (case k_init_InvalidPlan => k_is)
    (case kcInvalidPlan => k_is)
    (case ecInvalidPlan => k_is)
    (case tcInvalidPlan => k_is)
    (case hdInvalidPlan => k_is)
    (case aInvalidActivity => k_is)
    (case xInvalidActivity => k_is)
    (case saInvalidActivity => k_is)
    (case gaInvalidActivity => k_is)
    (case ggInvalidActivity => k_is)
    (case nbInvalidActivity => k_is)
    (case iInvalidActivity => k_is)
    (case tInvalidActivity => k_is)
    (case l_init_InvalidActivity => k_is)
    (case d_init_InvalidActivity => k_is)
    (case k_init_InvalidActivity => k_is)
    (case kcInvalidActivity => k_is)
    (case ecInvalidActivity => k_is)
    (case tcInvalidActivity => k_is)
    (case hdInvalidActivity => k_is)
    (case aTooMany => k_is)
    (case xTooMany => k_is)
    (case saTooMany => k_is)
    (case gaTooMany => k_is)
    (case ggTooMany => k_is)
    (case nbTooMany => k_is)
    (case iTooMany => k_is)
    (case tTooMany => k_is)
    (case l_init_TooMany => k_is)
    (case d_init_TooMany => k_is)
    (case k_init_TooMany => k_is)
    (case kcTooMany => k_is)
    (case ecTooMany => k_is)
    (case tcTooMany => k_is)
    (case hdTooMany => k_is)
    (case s_e_InvalidPlan_InvalidPlan => k_is)
    (case s_e_InvalidActivity_InvalidPlan => k_is)
    (case s_e_InvalidActivity_InvalidActivity => k_is)
    (case s_e_TooMany_InvalidPlan => k_is)
    (case s_e_TooMany_InvalidActivity => k_is)
    (case s_e_TooMany_TooMany => k_is)
    (case a_is_integer => k_is)
    (case l_is_integer => k_is)
    (case d_is_integer => k_is)
    (case k_is_integer => k_is)
    (case a_is_count => k_is)
    (case l_is_count => k_is)
    (case d_is_count => k_is)
    (case k_is_count => k_is)
    (case a_is_within => k_is)
    (case l_is_within => k_is)
    (case d_is_within => k_is)
    (case k_is_within => k_is)
    (case a_is_index => k_is)
    (case l_is_index => k_is)
    (case d_is_index => k_is)
    (case k_is_index => k_is)
    (case a_is_tuple => k_is)
    (case l_is_tuple => k_is)
    (case d_is_tuple => k_is)
    (case k_is_tuple => k_is)
    (case a_in_order => k_is)
    (case l_in_order => k_is)
    (case d_in_order => k_is)
    (case k_in_order => k_is)
    (case a_plus => k_is)
    (case l_plus => k_is)
    (case d_plus => k_is)
    (case k_plus => k_is)
    (case a_is_later => k_is)
    (case l_is_later => k_is)
    (case d_is_later => k_is)
    (case k_is_later => k_is)
    (case a_is_activity => k_is)
    (case l_is_activity => k_is)
    (case d_is_activity => k_is)
    (case k_is_activity => k_is)
    (case a_are_activities => k_is)
    (case l_are_activities => k_is)
    (case d_are_activities => k_is)
    (case k_are_activities => k_is)
    (case a_coming_to => k_is)
    (case l_coming_to => k_is)
    (case d_coming_to => k_is)
    (case k_coming_to => k_is)
    (case a_sorted_events => k_is)
    (case l_sorted_events => k_is)
    (case d_sorted_events => k_is)
    (case k_sorted_events => k_is)
    (case a_has_ring => k_is)
    (case l_has_ring => k_is)
    (case d_has_ring => k_is)
    (case k_has_ring => k_is)
    (case a_is_plan => k_is)
    (case l_is_plan => k_is)
    (case d_is_plan => k_is)
    (case k_is_plan => k_is)
    (case a_check_plan => k_is)
    (case l_check_plan => k_is)
    (case d_check_plan => k_is)
    (case k_check_plan => k_is)
    (case a_plan_of => k_is)
    (case l_plan_of => k_is)
    (case d_plan_of => k_is)
    (case k_plan_of => k_is)
    (case a_search => k_is)
    (case l_search => k_is)
    (case d_search => k_is)
    (case k_search => k_is)
    (case a_times_from => k_is)
    (case l_times_from => k_is)
    (case d_times_from => k_is)
    (case k_times_from => k_is)
    (case a_times_of => k_is)
    (case l_times_of => k_is)
    (case d_times_of => k_is)
    (case k_times_of => k_is)
    (case a_pairs_of => k_is)
    (case l_pairs_of => k_is)
    (case d_pairs_of => k_is)
    (case k_pairs_of => k_is)
    (case a_sums_between => k_is)
    (case l_sums_between => k_is)
    (case d_sums_between => k_is)
    (case k_sums_between => k_is)
    (case a_closure => k_is)
    (case l_closure => k_is)
    (case d_closure => k_is)
    (case k_closure => k_is)
    (case a_is_spare => k_is)
    (case l_is_spare => k_is)
    (case d_is_spare => k_is)
    (case k_is_spare => k_is)
    (case a_reduced => k_is)
    (case l_reduced => k_is)
    (case d_reduced => k_is)
    (case k_reduced => k_is)
    (case a_law_cell => k_is)
    (case l_law_cell => k_is)
    (case d_law_cell => k_is)
    (case k_law_cell => k_is)
    (case a_law_box => k_is)
    (case l_law_box => k_is)
    (case d_law_box => k_is)
    (case k_law_box => k_is)
    (case a_law_take => k_is)
    (case l_law_take => k_is)
    (case d_law_take => k_is)
    (case k_law_take => k_is)
    (case a_law_mixed => k_is)
    (case l_law_mixed => k_is)
    (case d_law_mixed => k_is)
    (case k_law_mixed => k_is)
    (case a_law_same => k_is)
    (case l_law_same => k_is)
    (case d_law_same => k_is)
    (case k_law_same => k_is)
    (case a_law_times => k_is)
    (case l_law_times => k_is)
    (case d_law_times => k_is)
    (case k_law_times => k_is)
    (case a_law_duration => k_is)
    (case l_law_duration => k_is)
    (case d_law_duration => k_is)
    (case k_law_duration => k_is)
    (case a_law_steps => k_is)
    (case l_law_steps => k_is)
    (case d_law_steps => k_is)
    (case k_law_steps => k_is)
    (case a_law_plan => k_is)
    (case l_law_plan => k_is)
    (case d_law_plan => k_is)
    (case k_law_plan => k_is)
    (case a_law_bad_plan => k_is)
    (case l_law_bad_plan => k_is)
    (case d_law_bad_plan => k_is)
    (case k_law_bad_plan => k_is)
    (case a_law_line => k_is)
    (case l_law_line => k_is)
    (case d_law_line => k_is)
    (case k_law_line => k_is)
    (case a_law_even => k_is)
    (case l_law_even => k_is)
    (case d_law_even => k_is)
    (case k_law_even => k_is)
    (case a_law_pairs => k_is)
    (case l_law_pairs => k_is)
    (case d_law_pairs => k_is)
    (case k_law_pairs => k_is)
    (case a_law_reduced => k_is)
    (case l_law_reduced => k_is)
    (case d_law_reduced => k_is)
    (case k_law_reduced => k_is)
    (case a_law_without => k_is)
    (case l_law_without => k_is)
    (case d_law_without => k_is)
    (case k_law_without => k_is)
    (case a_law_asked => k_is)
    (case l_law_asked => k_is)
    (case d_law_asked => k_is)
    (case k_law_asked => k_is)
    (case a_law_plan_right => k_is)
    (case l_law_plan_right => k_is)
    (case d_law_plan_right => k_is)
    (case k_law_plan_right => k_is)
    (case a_law_spare_right => k_is)
    (case l_law_spare_right => k_is)
    (case d_law_spare_right => k_is)
    (case k_law_spare_right => k_is)
    (case a_law_refused_right => k_is)
    (case l_law_refused_right => k_is)
    (case d_law_refused_right => k_is)
    (case k_law_refused_right => k_is)
    (case a_law => k_is)
    (case l_law => k_is)
    (case d_law => k_is)
    (case k_law => k_is)
