import PyProof.Rows.All
import Wide.All
import OpenK.AllK
import Wide.FinOn
import KE.KExcIs
import HandS.ForMost
import HandS.ForExc
import HandS.ExcInit
import HandS.ExcField
import HandS.ExcIs
import HandS.IsInst
import HandS.EndBits
import HandS.Flow
import HandS.Codes
import HandS.Walk
import PySem.Challenge.RW_asktongue_k15_tokens
set_option Elab.async false
set_option linter.all false
set_option maxRecDepth 100000
set_option maxHeartbeats 4000000
/-! Ak: what the laws of this program want beside the hand layer: defs that may call repr (no repr is under way around them), repr of nested data, isinstance of a caught error with fields. -/
namespace Ak
open PySem PySem.Spec PyProof.Rows L2

/-! ### a def's promise where no repr is under way -/
structure Quiet (P : Program) (w : World) (K : PySem.W.Frag) (mg : Str → Option Value) (base : Heap) (CX : CXT) (k : Nat) (f : Addr) (fd : FuncData) (ps : List Str) (sp : Sp) : Prop where
  many : ∀ vs H Q E, sp vs H Q E → vs.length = ps.length
  goes : ∀ (A : Around) (outer : List Env) (s : Shared) (H : Hp) (args : Args) (us : List Value) (vs : List V) (Q : VK) (E : XK), A.guards = some [] → Room k A → Env0 P w K mg base A outer s H →
    BindsTo s fd args (ps.zip us) → Vals vs us → sp vs H Q E → codeAny (model P w) A (.call (.ref f) args) (CR CX outer P w H s Q E) s
section
variable {P : Program} {w : World} {K : PySem.W.Frag} {mg : Str → Option Value} {base : Heap} {CX : CXT} {k j : Nat} {f : Addr} {fd : FuncData} {ps N : List Str} {sp sp' : Sp}
theorem Quiet.of (F : FnOk P w K mg base CX k f fd ps sp) : Quiet P w K mg base CX k f fd ps sp :=
  ⟨F.len, fun A outer s H args us vs Q E _ hr e b r q => F.run A outer s H args us vs Q E hr e b r q⟩
theorem Quiet.mono (F : Quiet P w K mg base CX j f fd ps sp) (h : j ≤ k) : Quiet P w K mg base CX k f fd ps sp :=
  ⟨F.many, fun A outer s H args us vs Q E hg hr e b r q => F.goes A outer s H args us vs Q E hg (hr.mono h) e b r q⟩

/-- a def of the text by its body, the body within a frame where no repr is under way -/
theorem quiet_of {x qual : Str} {st : Stmt} (F : Fun K x qual st f fd) (S : FnScope N ps (defScope st)) (many : ∀ vs H Q E, sp vs H Q E → vs.length = ps.length)
    (hbody : ∀ (cdv : Value) (A : Around) (outer : List Env) (s : Shared) (H : Hp) (vs : List V) (Q : VK) (E : XK), A.guards = some [] → Room k (A.deeper (envOfC qual (defScope st) s.heap.objs.size f cdv)) → sp vs H Q E →
      ∃ t, PSs (cxOf CX P w K mg base N qual (defScope st) f cdv A outer s H E).nox (defBody st) t ∧ t { nx := fun _ H' => Q .non H', rt := Q } (start N vs) H) :
    Quiet P w K mg base CX (k + 1) f fd ps sp := by
  obtain ⟨oc, od, kV, doc, pm, an, cdv, ct, osl, rfl, lk, hcd⟩ := F.ex
  refine ⟨many, fun A outer s H args us vs Q E hg hr e0 hb r hsp => ?_⟩
  have stay := fun b o e => (e0.bs b o e).1
  have inK : K.In s.heap := e0.mod.kin.keeps stay
  have free_ : s.heap.NoLimit := e0.mod.nolimit.keeps stay
  have ways : ∀ y ∈ ps.zip us, (defScope st).names.lookup y.1 = some .local ∨ ((defScope st).names.lookup y.1 = some .cell ∧ ((cellsFrom (s.heap.objs.size + 1) (defScope st).names []).lookup y.1).isSome = true) := by
    rintro ⟨n, v⟩ hy
    rcases S.par n (List.of_mem_zip hy).1 with q | q
    · exact Or.inl q
    · exact Or.inr ⟨q, PySem.W.cellsFrom_some _ _ _ (Or.inl q)⟩
  refine codeAny_call_function hr.depth (inK _ _ lk) rfl S.co S.gen rfl (PySem.W.codeRec_of inK hcd) (hb _ _ _ _ ?_)
  refine wpAny_newFunctionEnv_cells S.kind ways fun env he s1 x => ?_
  cases he
  refine ⟨free_.keeps x.toInCall.keep, codeAny_func ?_⟩
  obtain ⟨t, ht0, hq⟩ := hbody cdv A outer s H vs Q E hg (hr.deeper _) hsp
  have ht := ht0.nox
  have J := inv_start (CX := CX) (P := P) (w := w) (K := K) (mg := mg) (base := base) (E := E) S hr.hd e0 (many _ _ _ _ hsp) r x
  refine wpAny_mono (ht.run [] s1 (start N vs) H _ J hq) (fun fl s' hs => ?_) fun _ _ hs => hs
  cases fl with
  | brk => obtain ⟨_, _, _, q⟩ := hs; exact q.elim
  | cont => obtain ⟨_, _, _, q⟩ := hs; exact q.elim
  | next =>
    obtain ⟨_, H', I, q⟩ := hs
    exact ⟨V.non, H', I.os, I.bare, I.base, I.hok, rfl, q⟩
  | ret u =>
    obtain ⟨v, _, H', I, rv, q⟩ := hs
    exact ⟨v, H', I.os, I.bare, I.base, I.hok, rv, q⟩
end

section
variable {X : Cx} {CX : CXT} {k : Nat} {f : Addr} {fd : FuncData} {ps : List Str} {sp : Sp} {dvs : List V} {ds : List Value} {E : XK} {x : Str} {p pos : Pos} {e : Expr} {es : List Expr} {t : TA}
theorem quiet_call {pins : List (Addr × Obj)} {σ : L2.St} {H : Hp} {s : Shared} {Q : VK} {us : List Value} {vs : List V} (F : Quiet X.prog X.w X.K X.mg X.base CX k f fd ps sp) (hg : X.A.guards = some []) (hr : Room k X.A) (hb : Binds X.K fd ps ds) (hd : Vals dvs ds) (hx : Passes CX X E)
    (I : Inv X pins σ H s) (r : Vals vs us) (h : sp (vs ++ dvs) H Q E) : wpAny (model X.prog X.w) X.A (call (.ref f) us) (EP X pins σ Q) X.xe s := by
  have both : Vals (vs ++ dvs) (us ++ ds) := r.append hd
  have size_ : (us ++ ds).length = ps.length := both.length ▸ F.many _ _ _ _ h
  refine wpAny_call (codeAny_mono (F.goes X.A X.stack s H ⟨us, []⟩ (us ++ ds) (vs ++ dvs) Q E hg hr I.env0 (hb s us I.kIn size_) both h) fun res s' q => ?_)
  cases res with
  | error z => exact hx pins σ H s z s' I q
  | ok fl =>
    cases fl with
    | ret u => exact I.after q
    | _ => exact False.elim q
/-- f(e, ..) of such a def -/
theorem pe_callQ (F : Quiet X.prog X.w X.K X.mg X.base CX k f fd ps sp) (hg : X.A.guards = some []) (hr : Room k X.A) (hgl : Gl X x) (hm : X.mg x = some (.ref f)) (hk : PySem.W.keepIn X.K (.ref f) = true) (hb : Binds X.K fd ps ds) (hd : Vals dvs ds) (hx : Passes CX X E)
    (ha : PA X (e :: es) t) (hdb : (x == ("__debug__" : Str)) = false := by decide) (he : starEach (e :: es) X.env = (false, eval e X.env) :: starEach es X.env := by rfl) (hpl : (backTo pos (starEach es X.env)).any (·.1) = false := by rfl) :
    PE X (.Call (.Name x p) (e :: es) [] pos) (tCall sp dvs E t) := by
  constructor
  intro pins s σ H Q I h
  refine wpAny_Call_Name_kw (ld_glob I hgl hm ?_ hdb)
  refine PySem.W.callWith_K (h₀ := X.base) I.ok.mod.kin hk (thn (ha.run pos pins s σ H _ I h) ?_) he hpl
  rintro us s1 ⟨vs, H1, I1, r, q⟩
  exact ⟨I1.kIn, quiet_call F hg hr hb hd hx I1 r q⟩
end

/-! ### repr of data -/
def rRepr (K : PySem.W.Frag) : List V → Hp → VK → Prop := fun xs H Q => ∃ (v : V) (d : PyData), xs = [v] ∧ Dp K H v d ∧ d.showable = true ∧ d.hasDict = false ∧ d.depth ≤ 40 ∧ d.shown.length ≤ sizeLine ∧ Q (.str d.shown) H
theorem call_repr {X : Cx} (hg : X.A.guards = some []) (hu : X.A.units + 64 < cLine) : CallR X (.builtin "repr") (rRepr X.K) := by
  intro pins s σ H xs us Q I r h
  obtain ⟨v, d, rfl, hd, hs, hn, hp, hz, q⟩ := h
  obtain ⟨u, rfl, ru⟩ := vals1 r
  obtain ⟨as, R⟩ := Dp.reads I d v u hd ru
  have fin : ∀ (h' : Heap) (t : Tok) (tk : Nat), (∀ b o, s.heap.get? b = some o → h'.get? b = some o) → EP X pins σ Q (.str d.shown t) { s with heap := h', toks := tk } := fun h' t tk hk =>
    ⟨.str d.shown, H, I.kept (t' := tk) hk, ⟨t, rfl⟩, q⟩
  cases hd with
  | non =>
    obtain rfl : u = Value.none := ru
    exact PySem.P.repr_of_none (fin s.heap _ _ fun _ _ e => e)
  | bl b =>
    obtain rfl : u = Value.bool b := ru
    exact PySem.P.repr_of_bool (fin s.heap _ _ fun _ _ e => e)
  | int i =>
    obtain ⟨t, rfl⟩ := ru
    have hi : i.natAbs.log2 < 1920 := by simpa [PyData.showable] using hs
    exact PySem.P.repr_of_int hi (fin s.heap _ _ fun _ _ e => e)
  | str y =>
    obtain ⟨t, rfl⟩ := ru
    exact PySem.P.repr_of_str (fin s.heap _ _ fun _ _ e => e)
  | lst h1 h2 =>
    obtain rfl : u = Value.ref _ := ru
    exact repr_of_reads' R hs (PyData.noDict_hsm hn) hg (by omega) (fun _ _ e => e) (fun h' t tk hk => fin h' t tk hk) hz
  | tup h1 h2 =>
    obtain rfl : u = Value.ref _ := ru
    exact repr_of_reads' R hs (PyData.noDict_hsm hn) hg (by omega) (fun _ _ e => e) (fun h' t tk hk => fin h' t tk hk) hz

/-! ### isinstance of a caught error, fields or none -/
theorem call_isErr {X : Cx} {a D : Addr} {oe : Obj} {pn : List (Addr × Obj)} {dd : Addr} {fs : List (Str × V)} (C : ExcC X.K D) (hz : Zc (.ref D) (some dd) oe) (hf : ∃ vs, oe.data = .fields vs) :
    CallR (X.suite a ((a, oe) :: pn)) (.builtin "isinstance") (fun xs H Q => H dd = some (.xd fs) ∧ rIsE X.K D a xs H Q) := by
  intro pins s σ H xs us Q I r h
  obtain ⟨hdd, c, cv, b, rfl, hcv, e, q⟩ := h
  obtain ⟨u1, u2, rfl, r1, r2⟩ := vals2 r
  obtain rfl : u1 = Value.ref a := r1
  obtain rfl := hcv _ r2
  obtain ⟨hget, _⟩ := I.pin (a, oe) (List.mem_append.mpr (.inl List.mem_cons_self))
  obtain ⟨vs, hv⟩ := hf
  have hx : ObjOk X.prog X.w H s.heap dd (.xd fs) := I.hok dd _ hdd
  obtain ⟨mA, hns, _⟩ := hx
  obtain ⟨od, ho, _⟩ := lookIn_ns hns
  have J : PySem.W.InstAt s.heap a oe D (some od) := ⟨hget, hz.1, by unfold PySem.W.notCls; rw [hv] <;> rfl, by rw [hz.2]; exact ho⟩
  exact PySem.W.kia_one (PySem.W.kitx_exc (by obtain ⟨cd, hc, _⟩ := PySem.W.any_some C.hd; rw [hc]; rfl) C.hg C.hk C.hs C.ha C.hn C.ht C.hm) I.kIn J e (fun z => nomatch z) fun tk => ⟨.bl b, H, I.kept (t' := tk) fun _ _ z => z, rfl, q⟩

/-! ### a call with names alone -/
section
variable {X : Cx} {CX : CXT} {k : Nat} {f : Addr} {fd : FuncData} {ps ks : List Str} {sp : Sp} {E : XK} {x : Str} {p pos : Pos} {kws : List Keyword} {tk : TA} {g : List Value → List Value → List Value} {gV : List V → List V → List V}
theorem pe_callN (F : FnOk X.prog X.w X.K X.mg X.base CX k f fd ps sp) (hr : Room k X.A) (hg : Gl X x) (hm : X.mg x = some (.ref f)) (hk : PySem.W.keepIn X.K (.ref f) = true) (hb : KBinds X.K fd ps ks g gV) (hx : Passes CX X E)
    (hkw : PK X kws tk) (hall : (backToKw pos (keywordEach kws X.env)).all (·.1.isSome) = true := by rfl) (hks : (backToKw pos (keywordEach kws X.env)).filterMap (·.1) = ks := by rfl) (hdb : (x == ("__debug__" : Str)) = false := by decide)
    (hpl : ((backTo pos (starEach [] X.env)).any (·.1) || (backToKw pos (keywordEach kws X.env)).any (·.1.isNone)) = false := by rfl) : PE X (.Call (.Name x p) [] kws pos) (tCallK sp gV E tNil tk) := by
  constructor
  intro pins s σ H Q I h
  refine wpAny_Call_Name_kw (ld_glob I hg hm ?_ hdb)
  refine PySem.W.callWith_KW0 (h₀ := X.base) I.ok.mod.kin hk hall (thn (hkw.run pos pins s σ H _ I h) ?_) hpl
  rintro ws s2 ⟨zs, H2, I2, rz, q2⟩
  refine ⟨I2.kIn, ?_⟩
  rw [hks]
  exact run_fnk (us := []) (vs := []) F hr hb hx I2 .nil rz q2
/-- one parameter, given by its place or by its name -/
theorem kbinds1 {K : PySem.W.Frag} {fd : FuncData} {n : Str} (h0 : ∀ u : Value, bindArgs fd ⟨[u], []⟩ = pure [(n, u)]) (h1 : ∀ u : Value, bindArgs fd ⟨[], [(n, u)]⟩ = pure [(n, u)]) : KBinds K fd [n] [n] (fun us ws => us ++ ws) (fun vs zs => vs ++ zs) where
  to := fun s us ws _ hl => by
    cases us with
    | cons u r =>
      have e : r = [] ∧ ws = [] := by
        simp only [List.cons_append, List.length_cons, List.length_append, List.length_nil] at hl
        exact ⟨List.length_eq_zero_iff.mp (by omega), List.length_eq_zero_iff.mp (by omega)⟩
      obtain ⟨rfl, rfl⟩ := e
      exact BindsTo.of_eq (h0 u)
    | nil =>
      cases ws with
      | nil => simp at hl
      | cons u r =>
        have e : r = [] := by
          simp only [List.nil_append, List.length_cons, List.length_nil] at hl
          exact List.length_eq_zero_iff.mp (by omega)
        subst e
        exact BindsTo.of_eq (h1 u)
  rel := fun r r' => r.append r'
end

/-! ### operators by whatever their operands are -/
def rAddA (K : PySem.W.Frag) : R2 := fun x y H Q => rI0 (fun i j => .int (i + j)) x y H Q ∨ (∃ i j, x = .str i ∧ y = .str j ∧ i.length + j.length ≤ sizeLine ∧ Q (.str (i ++ j)) H) ∨ rCat x y H Q ∨ rCatT K x y H Q
def rMulA : R2 := fun x y H Q => rI CMul (fun i j => .int (i * j)) x y H Q ∨ rRep x y H Q
def rEqA (K : PySem.W.Frag) : R2 := fun x y H Q => rEq x y H Q ∨ rEqD K x y H Q
def rNeA (K : PySem.W.Frag) : R2 := fun x y H Q => rNe x y H Q ∨ rNeD K x y H Q
def rInA (K : PySem.W.Frag) : R2 := fun x y H Q => rIn K false x y H Q ∨ ∃ (c : Nat) (z : Str), x = .str ⟨#[c]⟩ ∧ y = .str z ∧ Q (.bl (decide (c ∈ z.cps.toList))) H
def rNiA (K : PySem.W.Frag) : R2 := fun x y H Q => rIn K true x y H Q ∨ ∃ (c : Nat) (z : Str), x = .str ⟨#[c]⟩ ∧ y = .str z ∧ Q (.bl (!decide (c ∈ z.cps.toList))) H
def rSlA3 (K : PySem.W.Frag) : V → Option Int → Option Int → Hp → VK → Prop := fun x lo hi H Q => rSlL K x lo hi H Q ∨ rSlS x lo hi H Q ∨ rSlT K x lo hi H Q
section
variable {X : Cx}
theorem or_op {f : Value → Value → Sem Value} {r r' : R2} (h : OpR X f r) (h' : OpR X f r') : OpR X f (fun x y H Q => r x y H Q ∨ r' x y H Q) := by
  intro pins s σ H x y v u Q I rx ry q
  rcases q with q | q
  · exact h pins s σ H x y v u Q I rx ry q
  · exact h' pins s σ H x y v u Q I rx ry q
/-- a + b: ints, texts, lists, tuples -/
theorem opAdd {K : PySem.W.Frag} (hK : X.K = K) : OpR X (binaryOp .Add) (rAddA K) := hK ▸ or_op op_add (or_op op_add_str (or_op op_cat op_catT))
/-- a * b: ints (the left one small), a list and an int -/
theorem opMul : OpR X (binaryOp .Mult) rMulA := or_op op_mul op_rep
/-- a == b, a != b: scalars; data -/
theorem opEq {K : PySem.W.Frag} (hK : X.K = K) (hu : X.A.units + 64 < cLine) : OpR X (compareOp .Eq) (rEqA K) := hK ▸ or_op op_eq (op_eqD hu)
theorem opNe {K : PySem.W.Frag} (hK : X.K = K) (hu : X.A.units + 64 < cLine) : OpR X (compareOp .NotEq) (rNeA K) := hK ▸ or_op op_ne (op_neD hu)
/-- a in b: one of a list or a tuple of flat things; one sign of a text -/
theorem opIn {K : PySem.W.Frag} (hK : X.K = K) : OpR X (compareOp .In) (rInA K) := hK ▸ or_op op_in_seq op_in_sign
theorem opNi {K : PySem.W.Frag} (hK : X.K = K) : OpR X (compareOp .NotIn) (rNiA K) := hK ▸ or_op op_notIn_seq op_notIn_sign
theorem slAny {K : PySem.W.Frag} (hK : X.K = K) : SlR X (rSlA3 K) := hK ▸ sl_list.or (sl_str.or sl_tup)
theorem ixAny {K : PySem.W.Frag} (hK : X.K = K) : IxR X (rIx K) := hK ▸ ix_seq
/-- built-ins -/
def rLenA (K : PySem.W.Frag) : List V → Hp → VK → Prop := fun xs H Q => ∃ x n, xs = [x] ∧ LenV K x H n ∧ Q (.int n) H
def rListA (K : PySem.W.Frag) : List V → Hp → VK → Prop := fun xs H Q => ∃ p ys, xs = [.ref p] ∧ (SqL K H p ys ∨ SqT K H p ys) ∧ ∀ l, H l = none → Q (.ref l) (upd H l (.lst ys))
def rJoinA (K : PySem.W.Frag) : V → List V → Hp → VK → Prop := fun x xs H Q => ∃ (z : Str) (p : Addr) (ys : List Str), x = .str z ∧ xs = [.ref p] ∧ (SqL K H p (ys.map V.str) ∨ SqT K H p (ys.map V.str)) ∧ (ys.map Str.length).sum + z.length * ys.length ≤ 16777216 ∧ Q (.str (Txt.join z ys)) H
theorem caLen {K : PySem.W.Frag} (hK : X.K = K) : CallR X (.builtin "len") (rLenA K) := hK ▸ call_len
theorem caIsi {K : PySem.W.Frag} (hK : X.K = K) : CallR X (.builtin "isinstance") (rIsi K) := hK ▸ call_isi
theorem caSum {K : PySem.W.Frag} (hK : X.K = K) (hc : X.calm = true) : CallR X (.builtin "sum") (rSum K) := hK ▸ cr_sum hc
theorem caAll {K : PySem.W.Frag} (hK : X.K = K) (hc : X.calm = true) : CallR X (.builtin "all") (rAll K) := hK ▸ cr_all hc
theorem caAny {K : PySem.W.Frag} (hK : X.K = K) (hc : X.calm = true) : CallR X (.builtin "any") (rAny K) := hK ▸ cr_any hc
theorem caRepr {K : PySem.W.Frag} (hK : X.K = K) (hg : X.A.guards = some []) (hu : X.A.units + 64 < cLine) : CallR X (.builtin "repr") (rRepr K) := hK ▸ call_repr hg hu
theorem caList {K : PySem.W.Frag} (hK : X.K = K) : CallR X (.type "list") (rListA K) := hK ▸ call_list_of
end
end Ak

set_option maxHeartbeats 4000000
/-! AkRead: words for the readings. -/
namespace Ak
open PySem PySem.Spec PyProof.Rows L2 TL

/-- one sign -/
abbrev sg (c : Nat) : V := .str ⟨#[c]⟩
/-- a text of signs -/
abbrev tx (l : List Nat) : Str := ⟨l.toArray⟩
/-- the signs of a written text -/
def cs (s : String) : List Nat := s.toList.map Char.toNat
theorem tl_tx (l : List Nat) : tl (tx l) = l := rfl
theorem tx_tl (z : Str) : tx (tl z) = z := mk_tl z
theorem len_tx (l : List Nat) : (tx l).length = l.length := by rw [len_tl, tl_tx]
theorem tx_app (a b : List Nat) : tx a ++ tx b = tx (a ++ b) := ext_tl (by rw [tl_append, tl_tx, tl_tx, tl_tx])
theorem tx_inj {a b : List Nat} (h : tx a = tx b) : a = b := by
  have := congrArg tl h
  exact this
theorem same_new {H : Hp} {p : Addr} {o : HO} (h : H p = none) : Same H (upd H p o) := fun b x e => by
  rw [upd_ne (ne_of_none e h)]
  exact e
theorem Same.tup {K : PySem.W.Frag} {H H' : Hp} {a : Addr} {xs : List V} (e : Same H H') (h : SqT K H a xs) : SqT K H' a xs := by
  rcases h with (h | ⟨o, h⟩) | h
  · exact .inl (.inl (e _ _ h))
  · exact .inl (.inr ⟨o, e _ _ h⟩)
  · exact .inr h
mutual
theorem Dp.same {K : PySem.W.Frag} {H H' : Hp} (e : Same H H') : ∀ {v : V} {d : PyData}, Dp K H v d → Dp K H' v d
  | _, _, .non => .non
  | _, _, .bl b => .bl b
  | _, _, .int i => .int i
  | _, _, .str x => .str x
  | _, _, .lst h1 h2 => .lst (e.seq h1) (DpAll.same e h2)
  | _, _, .tup h1 h2 => .tup (Same.tup e h1) (DpAll.same e h2)
theorem DpAll.same {K : PySem.W.Frag} {H H' : Hp} (e : Same H H') : ∀ {vs : List V} {ds : List PyData}, DpAll K H vs ds → DpAll K H' vs ds
  | _, _, .nil => .nil
  | _, _, .cons a b => .cons (Dp.same e a) (DpAll.same e b)
end
theorem DpAll.app {K : PySem.W.Frag} {H : Hp} : ∀ {vs ws : List V} {ds es : List PyData}, DpAll K H vs ds → DpAll K H ws es → DpAll K H (vs ++ ws) (ds ++ es)
  | _, _, _, _, .nil, b => b
  | _, _, _, _, .cons a r, b => .cons a (DpAll.app r b)
theorem DpAll.length {K : PySem.W.Frag} {H : Hp} : ∀ {vs : List V} {ds : List PyData}, DpAll K H vs ds → vs.length = ds.length
  | _, _, .nil => rfl
  | _, _, .cons _ r => by rw [List.length_cons, List.length_cons, DpAll.length r]
theorem DpAll.get {K : PySem.W.Frag} {H : Hp} : ∀ {vs : List V} {ds : List PyData} {i : Nat} {d : PyData}, DpAll K H vs ds → ds[i]? = some d → ∃ v, vs[i]? = some v ∧ Dp K H v d
  | _, _, _, _, .nil, h => by simp at h
  | _, _, 0, _, .cons a _, h => ⟨_, rfl, by have e := Option.some.inj h; subst e; exact a⟩
  | _, _, i + 1, _, .cons _ r, h => DpAll.get (i := i) r h
theorem DpAll.take {K : PySem.W.Frag} {H : Hp} : ∀ {vs : List V} {ds : List PyData} (n : Nat), DpAll K H vs ds → DpAll K H (vs.take n) (ds.take n)
  | _, _, 0, _ => .nil
  | _, _, _ + 1, .nil => .nil
  | _, _, n + 1, .cons a r => .cons a (DpAll.take n r)
theorem DpAll.drop {K : PySem.W.Frag} {H : Hp} : ∀ {vs : List V} {ds : List PyData} (n : Nat), DpAll K H vs ds → DpAll K H (vs.drop n) (ds.drop n)
  | _, _, 0, r => r
  | _, _, _ + 1, .nil => .nil
  | _, _, n + 1, .cons _ r => DpAll.drop n r

/-! ### comprehensions without effects -/
section
variable {g : TG} {tt : TT} {te : TE} {σ : L2.St} {H1 : Hp} {i : Nat}
theorem wipe_one (σ : L2.St) (i : Nat) (x : Option V) : wipe ((wipe σ [i]).set i x) [i] = wipe σ [i] := by
  show (((σ.set i none).set i x).set i none) = σ.set i none
  rw [List.set_set, List.set_set]
/-- over a text, sign by sign -/
theorem lc_txt {z : Str} {D : Addr} {Qd : Hp → Prop} (p : Nat → Bool) (f : Nat → V) (hz : z.length < sizeLine)
    (ht : ∀ c ∈ tl z, ∀ (H : Hp) (Q : Bool → Hp → Prop), Same H1 H → Q (p c) H → tt ((wipe σ [i]).set i (some (sg c))) H Q)
    (he : ∀ c ∈ tl z, p c = true → ∀ (H : Hp) (Q : VK), Same H1 H → Q (f c) H → te ((wipe σ [i]).set i (some (sg c))) H Q)
    (hD : H1 D = none) (hd : Qd (upd H1 D (.lst (((tl z).filter p).map f)))) :
    ∃ W : Nat → Nat → Hp → Prop, (∃ m, W 0 m (upd H1 D (.lst []))) ∧ ∀ j m H, W j m H →
      ((Its z).stop j H ∧ Qd H) ∨ ((Its z).go j H ∧ ∃ Nx : Hp → Prop, (∀ H', Nx H' → ∃ m', m' < m ∧ W (j + 1) m' H') ∧ ∀ x H', (Its z).yld j H x H' → gName i x (wipe σ [i]) H' fun σ2 H2 => wipe σ2 [i] = wipe σ [i] ∧ tt σ2 H2 fun b H3 =>
        if b = true then te σ2 H3 fun y H4 => ∃ acc, H4 D = some (.lst acc) ∧ acc.length < sizeLine ∧ Nx (upd H4 D (.lst (acc ++ [y]))) else Nx H3) := by
  refine lc_it (g := gName i) (walk_str (z := z)) (fun j H => H = upd H1 D (.lst ((((tl z).take j).filter p).map f))) rfl (fun _ _ _ _ => trivial) ?_ ?_
  · rintro j x H H' hj rfl ⟨rfl, c, hc, rfl⟩
    have hc' : (tl z)[j]? = some c := by simpa [tl] using hc
    have hm : c ∈ tl z := List.mem_of_getElem? hc'
    have et : (tl z).take (j + 1) = (tl z).take j ++ [c] := by
      rw [List.take_add_one, hc']
      rfl
    refine ⟨wipe_one σ i _, ht c hm _ _ (same_new hD) ?_⟩
    cases hp : p c with
    | true =>
      rw [if_pos rfl]
      refine he c hm hp _ _ (same_new hD) ⟨_, upd_same, ?_, ?_⟩
      · have l1 : ((((tl z).take j).filter p).map f).length ≤ (tl z).length := by
          rw [List.length_map]
          exact Nat.le_trans (List.length_filter_le _ _) (by rw [List.length_take]; omega)
        rw [len_tl] at hz
        omega
      · rw [upd_upd, et, List.filter_append, List.map_append]
        simp [hp]
    | false =>
      rw [if_neg Bool.false_ne_true, et, List.filter_append]
      simp [hp]
  · rintro H rfl
    have e : (tl z).take z.cps.size = tl z := List.take_of_length_le (by simp [tl])
    rw [e]
    exact hd
/-- over a list or a tuple: the walk's items xs -/
theorem lc_seq {J : It} {G : Hp → Prop} {xs : List V} {D : Addr} {Qd : Hp → Prop} (w : Walk J xs.length G (YAt xs)) (p : V → Bool) (f : V → V) (hz : xs.length < sizeLine) (hG : ∀ H, Same H1 H → G H)
    (ht : ∀ x ∈ xs, ∀ (H : Hp) (Q : Bool → Hp → Prop), Same H1 H → Q (p x) H → tt ((wipe σ [i]).set i (some x)) H Q)
    (he : ∀ x ∈ xs, p x = true → ∀ (H : Hp) (Q : VK), Same H1 H → Q (f x) H → te ((wipe σ [i]).set i (some x)) H Q)
    (hD : H1 D = none) (hd : Qd (upd H1 D (.lst ((xs.filter p).map f)))) :
    ∃ W : Nat → Nat → Hp → Prop, (∃ m, W 0 m (upd H1 D (.lst []))) ∧ ∀ j m H, W j m H →
      (J.stop j H ∧ Qd H) ∨ (J.go j H ∧ ∃ Nx : Hp → Prop, (∀ H', Nx H' → ∃ m', m' < m ∧ W (j + 1) m' H') ∧ ∀ x H', J.yld j H x H' → gName i x (wipe σ [i]) H' fun σ2 H2 => wipe σ2 [i] = wipe σ [i] ∧ tt σ2 H2 fun b H3 =>
        if b = true then te σ2 H3 fun y H4 => ∃ acc, H4 D = some (.lst acc) ∧ acc.length < sizeLine ∧ Nx (upd H4 D (.lst (acc ++ [y]))) else Nx H3) := by
  refine lc_it (g := gName i) w (fun j H => H = upd H1 D (.lst (((xs.take j).filter p).map f))) rfl (fun j H _ e => by subst e; exact hG _ (same_new hD)) ?_ ?_
  · rintro j x H H' hj rfl ⟨rfl, hc'⟩
    have hm : x ∈ xs := List.mem_of_getElem? hc'
    have et : xs.take (j + 1) = xs.take j ++ [x] := by
      rw [List.take_add_one, hc']
      rfl
    refine ⟨wipe_one σ i _, ht x hm _ _ (same_new hD) ?_⟩
    cases hp : p x with
    | true =>
      rw [if_pos rfl]
      refine he x hm hp _ _ (same_new hD) ⟨_, upd_same, ?_, ?_⟩
      · have l1 : (((xs.take j).filter p).map f).length ≤ xs.length := by
          rw [List.length_map]
          exact Nat.le_trans (List.length_filter_le _ _) (by rw [List.length_take]; omega)
        omega
      · rw [upd_upd, et, List.filter_append, List.map_append]
        simp [hp]
    | false =>
      rw [if_neg Bool.false_ne_true, et, List.filter_append]
      simp [hp]
  · rintro H rfl
    rw [List.take_length]
    exact hd
end

/-! ### single steps -/
theorem bif_t {c : Bool} {A B : Prop} (h : c = true) (a : A) : if c = true then A else B := by rw [if_pos h]; exact a
theorem bif_f {c : Bool} {A B : Prop} (h : c = false) (b : B) : if c = true then A else B := by rw [h, if_neg Bool.false_ne_true]; exact b
theorem biff {c : Bool} {A B : Prop} (ht : c = true → A) (hf : c = false → B) : if c = true then A else B := by
  cases c with
  | true => rw [if_pos rfl]; exact ht rfl
  | false => rw [if_neg Bool.false_ne_true]; exact hf rfl
section
variable {K : PySem.W.Frag} {H : Hp} {Q : VK}
theorem q_ix_tx {l : List Nat} {j c : Nat} (hz : l.length ≤ 100000) (h : l[j]? = some c) (q : Q (sg c) H) : rIx K (.str (tx l)) (.int (j : Int)) H Q :=
  .inr (.inr ⟨tx l, _, c, rfl, rfl, by rw [len_tx]; exact Nat.le_trans hz (by decide), atI_nat h, q⟩)
theorem q_ix_lst {p : Addr} {xs : List V} {i : Int} {v : V} (hp : SqL K H p xs) (h : atI xs i = some v) (q : Q v H) : rIx K (.ref p) (.int i) H Q := .inl ⟨p, xs, i, v, rfl, rfl, hp, h, q⟩
theorem q_ix_tup {p : Addr} {xs : List V} {i : Int} {v : V} (hp : SqT K H p xs) (h : atI xs i = some v) (q : Q v H) : rIx K (.ref p) (.int i) H Q := .inr (.inl ⟨p, xs, i, v, rfl, rfl, hp, h, q⟩)
theorem q_in_sg {c : Nat} {l : List Nat} (q : Q (.bl (decide (c ∈ l))) H) : rInA K (sg c) (.str (tx l)) H Q := .inr ⟨c, tx l, rfl, rfl, q⟩
theorem q_ni_sg {c : Nat} {l : List Nat} (q : Q (.bl (!decide (c ∈ l))) H) : rNiA K (sg c) (.str (tx l)) H Q := .inr ⟨c, tx l, rfl, rfl, q⟩
theorem flat_strs (ys : List (List Nat)) : (ys.map fun y => V.str (tx y)).all flatV = true := by
  rw [List.all_eq_true]
  intro x hx
  obtain ⟨y, _, rfl⟩ := List.mem_map.mp hx
  rfl
theorem inV_strs (l : List Nat) (ys : List (List Nat)) : inV (.str (tx l)) (ys.map fun y => V.str (tx y)) = ys.contains l := by
  unfold inV
  rw [Bool.eq_iff_iff, List.any_eq_true, List.contains_iff_mem]
  constructor
  · rintro ⟨x, hx, e⟩
    obtain ⟨y, hy, rfl⟩ := List.mem_map.mp hx
    have e' : (tx y == tx l) = true := e
    have := tx_inj (eq_of_beq e')
    subst this
    exact hy
  · intro h
    refine ⟨.str (tx l), List.mem_map.mpr ⟨l, h, rfl⟩, ?_⟩
    show (tx l == tx l) = true
    exact beq_self_eq_true _
theorem q_in_txs {l : List Nat} {p : Addr} {ys : List (List Nat)} (hp : SqL K H p (ys.map fun y => V.str (tx y)) ∨ SqT K H p (ys.map fun y => V.str (tx y))) (q : Q (.bl (ys.contains l)) H) : rInA K (.str (tx l)) (.ref p) H Q :=
  .inl ⟨p, _, rfl, hp, rfl, flat_strs ys, by rw [inV_strs]; exact q⟩
theorem q_ni_txs {l : List Nat} {p : Addr} {ys : List (List Nat)} (hp : SqL K H p (ys.map fun y => V.str (tx y)) ∨ SqT K H p (ys.map fun y => V.str (tx y))) (q : Q (.bl (!ys.contains l)) H) : rNiA K (.str (tx l)) (.ref p) H Q :=
  .inl ⟨p, _, rfl, hp, rfl, flat_strs ys, by rw [inV_strs]; exact q⟩
theorem q_add_int {i j : Int} (q : Q (.int (i + j)) H) : rAddA K (.int i) (.int j) H Q := .inl ⟨i, j, rfl, rfl, q⟩
theorem q_add_tx {a b : List Nat} (hz : a.length + b.length ≤ 1000000) (q : Q (.str (tx (a ++ b))) H) : rAddA K (.str (tx a)) (.str (tx b)) H Q :=
  .inr (.inl ⟨tx a, tx b, rfl, rfl, by rw [len_tx, len_tx]; exact Nat.le_trans hz (by decide), by rw [tx_app]; exact q⟩)
theorem q_add_lst {a b : Addr} {xs ys : List V} (ha : H a = some (.lst xs)) (hb : H b = some (.lst ys)) (hz : xs.length + ys.length ≤ 10000000) (q : ∀ p, H p = none → Q (.ref p) (upd H p (.lst (xs ++ ys)))) : rAddA K (.ref a) (.ref b) H Q :=
  .inr (.inr (.inl ⟨a, b, xs, ys, rfl, rfl, ha, hb, Nat.le_trans hz (by decide), q⟩))
theorem dec_tx {a b : List Nat} : decide (V.str (tx a) = V.str (tx b)) = decide (a = b) := by
  by_cases h : a = b
  · subst h; simp
  · rw [decide_eq_false h, decide_eq_false (fun e => h (tx_inj (V.str.inj e)))]
theorem q_eq_tx {a b : List Nat} (q : Q (.bl (decide (a = b))) H) : rEqA K (.str (tx a)) (.str (tx b)) H Q := .inl ⟨rfl, by rw [dec_tx]; exact q⟩
theorem q_ne_tx {a b : List Nat} (q : Q (.bl (!decide (a = b))) H) : rNeA K (.str (tx a)) (.str (tx b)) H Q := .inl ⟨rfl, by rw [dec_tx]; exact q⟩
theorem q_eq_int {i j : Int} (q : Q (.bl (decide (i = j))) H) : rEqA K (.int i) (.int j) H Q := .inl ⟨rfl, by
  have e : decide (V.int i = V.int j) = decide (i = j) := by by_cases h : i = j <;> simp [h]
  rw [e]; exact q⟩
theorem q_ne_int {i j : Int} (q : Q (.bl (!decide (i = j))) H) : rNeA K (.int i) (.int j) H Q := .inl ⟨rfl, by
  have e : decide (V.int i = V.int j) = decide (i = j) := by by_cases h : i = j <;> simp [h]
  rw [e]; exact q⟩
theorem q_eq_dat {x y : V} {d e : PyData} (hx : Dp K H x d) (hy : Dp K H y e) (sd : SeqAt.shaped d = true) (se : SeqAt.shaped e = true) (q : Q (.bl (PyData.eqv d e)) H) : rEqA K x y H Q := .inr ⟨d, e, hx, hy, sd, se, q⟩
theorem q_ne_dat {x y : V} {d e : PyData} (hx : Dp K H x d) (hy : Dp K H y e) (sd : SeqAt.shaped d = true) (se : SeqAt.shaped e = true) (q : Q (.bl (!PyData.eqv d e)) H) : rNeA K x y H Q := .inr ⟨d, e, hx, hy, sd, se, q⟩
theorem q_len_tx {l : List Nat} (hz : l.length ≤ 100000) (q : Q (.int (l.length : Int)) H) : rLenA K [.str (tx l)] H Q := ⟨_, l.length, rfl, ⟨by rw [len_tx]; exact Nat.le_trans hz (by decide), (len_tx l).symm⟩, q⟩
theorem q_len_lst {p : Addr} {xs : List V} (hp : SqL K H p xs) (q : Q (.int (xs.length : Int)) H) : rLenA K [.ref p] H Q := ⟨_, xs.length, rfl, .inl ⟨xs, hp, rfl⟩, q⟩
theorem q_len_tup {p : Addr} {xs : List V} (hp : SqT K H p xs) (q : Q (.int (xs.length : Int)) H) : rLenA K [.ref p] H Q := ⟨_, xs.length, rfl, .inr ⟨xs, hp, rfl⟩, q⟩
theorem cut_tx (l : List Nat) (i j : Nat) : cutS (tx l) (some (i : Int)) (some (j : Int)) = tx ((l.drop i).take (j - i)) := by
  unfold cutS
  rw [HT.sIx_nat, HT.sIx_nat, len_tx]
  show tx ((l.drop (min i l.length)).take (min j l.length - min i l.length)) = _
  congr 1
  by_cases hi : i ≤ l.length
  · rw [Nat.min_eq_left hi]
    by_cases hj : j ≤ l.length
    · rw [Nat.min_eq_left hj]
    · rw [Nat.min_eq_right (by omega), List.take_of_length_le (by rw [List.length_drop]; omega), List.take_of_length_le (by rw [List.length_drop]; omega)]
  · rw [Nat.min_eq_right (a := i) (by omega), List.drop_eq_nil_of_le (Nat.le_refl _), List.drop_eq_nil_of_le (as := l) (i := i) (by omega)]
    simp
theorem q_cut_tx {l : List Nat} {i j : Nat} (hz : l.length ≤ 100000) (q : Q (.str (tx ((l.drop i).take (j - i)))) H) : rSlA3 K (.str (tx l)) (some (i : Int)) (some (j : Int)) H Q :=
  .inr (.inl ⟨tx l, rfl, by rw [len_tx]; exact Nat.le_trans hz (by decide), by rw [cut_tx]; exact q⟩)
/-- isinstance of a plain value, of a list, of a tuple -/
theorem q_isi {x : V} {t T : String} {b : Bool} (ty : TyOf K H x (.type t)) (h : kitB t T = some b) (q : Q (.bl b) H) : rIsi K [x, .ty T] H Q := ⟨x, .ty T, .type t, .type T, b, rfl, .ty T, .base ty, kit_ty h, q⟩
theorem q_isi_str {l : Str} (q : Q (.bl true) H) : rIsi K [.str l, .ty "str"] H Q := q_isi (.str l) (b := true) (by decide +kernel) q
theorem q_isi_no {x : V} {t T : String} (ty : TyOf K H x (.type t)) (h : kitB t T = some false) (q : Q (.bl false) H) : rIsi K [x, .ty T] H Q := q_isi ty h q
theorem q_isi_yes {x : V} {t T : String} (ty : TyOf K H x (.type t)) (h : kitB t T = some true) (q : Q (.bl true) H) : rIsi K [x, .ty T] H Q := q_isi ty h q
end

/-! ### written texts, constants of the top -/
theorem lit_eq (s : String) : Str.ofString s = tx (cs s) := ext_tl (tl_ofString s)
section
variable {X : Cx} {x : Str} {v : V} {pos : Pos} {j : Nat}
theorem pe_lit (s : String) : PE X (.Constant (.str (Str.ofString s)) j pos) (tC (.str (tx (cs s)))) := by
  rw [← lit_eq]
  exact pe_str
theorem pe_const (h : ∃ u, X.mg x = some u ∧ RelV v u) (hg : Gl X x) (hd : (x == ("__debug__" : Str)) = false := by decide) : PE X (.Name x pos) (tC v) :=
  let ⟨_, h1, h2⟩ := h
  pe_glob hg h1 h2 hd
theorem rel_lit {s : String} {t : Tok} : RelV (.str (tx (cs s))) (.str (Str.ofString s) t) := ⟨t, by rw [lit_eq]⟩
end
end Ak

set_option maxHeartbeats 4000000
/-! AkStep: the readings, a step at a time. -/
namespace Ak
open PySem PySem.Spec PyProof.Rows L2 TL
section
variable {K : PySem.W.Frag} {σ : L2.St} {H : Hp} {Q : VK} {QT : Bool → Hp → Prop} {QA : List V → Hp → Prop} {D : Ends} {ta tb tc te to ti : TE} {c u' : TT} {t u : TS} {a : TA} {r r' : R2} {i j n : Nat} {v x y : V} {g : TG} {gs : TGs}
theorem r_var (h : σ[i]? = some (some v)) (q : Q v H) : tVar i σ H Q := ⟨v, h, q⟩
theorem r_c (q : Q v H) : tC v σ H Q := q
theorem r_op (q : ta σ H fun x H1 => tb σ H1 fun y H2 => r x y H2 Q) : tOp r ta tb σ H Q := q
theorem r_un {r : V → Hp → VK → Prop} (q : ta σ H fun x H1 => r x H1 Q) : tUn r ta σ H Q := q
theorem r_cb {r : List V → Hp → VK → Prop} (q : a σ H fun vs H1 => r vs H1 Q) : tCB r a σ H Q := q
theorem r_cons (q : ta σ H fun x H1 => a σ H1 fun xs H2 => QA (x :: xs) H2) : tCons ta a σ H QA := q
theorem r_nil (q : QA [] H) : tNil σ H QA := q
theorem r_tB (q : te σ H fun x H1 => ∃ c, x = .bl c ∧ QT c H1) : tB te σ H QT := q
theorem r_test (q : te σ H fun x H1 => ∃ c, x = .bl c ∧ QT c H1) : tTest te σ H QT := q
theorem r_bl {b : Bool} {R : Bool → Prop} (q : R b) : ∃ c, V.bl b = .bl c ∧ R c := ⟨b, rfl, q⟩
theorem r_not (q : c σ H fun b H1 => QT (!b) H1) : tNot c σ H QT := q
theorem r_and (q : c σ H fun b H1 => if b = true then u' σ H1 QT else QT false H1) : tAnd c u' σ H QT := q
theorem r_or (q : c σ H fun b H1 => if b = true then QT true H1 else u' σ H1 QT) : tOr c u' σ H QT := q
theorem r_andV (q : ta σ H fun x H1 => ∃ c, x = .bl c ∧ if c = true then tb σ H1 Q else Q (.bl false) H1) : tAndV ta tb σ H Q := q
theorem r_orV (q : ta σ H fun x H1 => ∃ c, x = .bl c ∧ if c = true then Q (.bl true) H1 else tb σ H1 Q) : tOrV ta tb σ H Q := q
theorem r_notV (q : ta σ H fun x H1 => ∃ c, x = .bl c ∧ Q (.bl (!c)) H1) : tNotV ta σ H Q := q
theorem r_if (q : c σ H fun b H1 => if b = true then ta σ H1 Q else tb σ H1 Q) : tIf c ta tb σ H Q := q
theorem r_chain (q : ta σ H fun x H1 => tb σ H1 fun y H2 => r x y H2 fun z H3 => ∃ k, z = .bl k ∧ (if k = true then tc σ H3 fun w' H4 => r' y w' H4 Q else Q (.bl false) H3)) : tChain r r' ta tb tc σ H Q := q
theorem r_isN (q : ta σ H fun x H1 => Q (.bl (decide (x = .non))) H1) : tIsN ta σ H Q := q
theorem r_notN (q : ta σ H fun x H1 => Q (.bl (!decide (x = .non))) H1) : tNotN ta σ H Q := q
theorem r_seq (q : t { D with nx := u D } σ H) : tSeq t u D σ H := q
theorem r_next (q : D.nx σ H) : tNext D σ H := q
theorem r_brk (q : D.bk σ H) : tBreak D σ H := q
theorem r_cont (q : D.ct σ H) : tCont D σ H := q
theorem r_ifS (q : c σ H fun b H1 => if b = true then t D σ H1 else u D σ H1) : tIfS c t u D σ H := q
theorem r_ret (q : te σ H D.rt) : tRet te D σ H := q
theorem r_drop (q : te σ H fun _ H1 => D.nx σ H1) : tDrop te D σ H := q
theorem r_asg (q : te σ H fun x H1 => g x σ H1 D.nx) : tAsg te g D σ H := q
theorem r_name {R : L2.St → Hp → Prop} (q : R (σ.set i (some v)) H) : gName i v σ H R := q
theorem r_tup (q : a σ H fun xs H1 => xs.length ≤ sizeLine ∧ ∀ p, H1 p = none → Q (.ref p) (upd H1 p (.tup xs))) : tTup a σ H Q := q
theorem r_lst (q : a σ H fun xs H1 => xs.length ≤ sizeLine ∧ ∀ p, H1 p = none → Q (.ref p) (upd H1 p (.lst xs))) : tLst a σ H Q := q
theorem r_sl {r : V → Option Int → Option Int → Hp → VK → Prop} {tl th : TO} (q : te σ H fun x H1 => tl σ H1 fun l H2 => th σ H2 fun u H3 => r x l u H3 Q) : L2.tSl r te tl th σ H Q := q
theorem r_part {R : Option Int → Hp → Prop} (q : te σ H fun x H1 => ∃ i, x = .int i ∧ R (some i) H1) : tPart te σ H R := q
theorem r_nopart {R : Option Int → Hp → Prop} (q : R none H) : tNoPart σ H R := q
theorem r_int {z : Int} {R : Int → Prop} (q : R z) : ∃ i, V.int z = .int i ∧ R i := ⟨z, rfl, q⟩
theorem r_call {sp : Sp} {dvs : List V} {E : XK} (q : a σ H fun vs H1 => sp (vs ++ dvs) H1 Q E) : tCall sp dvs E a σ H Q := q
theorem r_callK {sp : Sp} {gV : List V → List V → List V} {E : XK} {tk : TA} (q : a σ H fun vs H1 => tk σ H1 fun zs H2 => sp (gV vs zs) H2 Q E) : L2.tCallK sp gV E a tk σ H Q := q
theorem r_bm {T : String} {r : V → List V → Hp → VK → Prop} (q : to σ H fun x H1 => tyV K T x H1 ∧ a σ H1 fun xs H2 => r x xs H2 Q) : tBM K T r to a σ H Q := q
theorem r_bm0 {T : String} {r : V → List V → Hp → VK → Prop} (q : to σ H fun x H1 => tyV K T x H1 ∧ r x [] H1 Q) : tBM0 K T r to σ H Q := q
theorem r_m1 {r : V → List V → Hp → VK → Prop} (q : to σ H fun x H1 => (∃ a, x = .str a) ∧ te σ H1 fun y H2 => r x [y] H2 Q) : tM1 r to te σ H Q := q
theorem r_m0 {r : V → List V → Hp → VK → Prop} (q : to σ H fun x H1 => (∃ a, x = .str a) ∧ r x [] H1 Q) : tM0 r to σ H Q := q
theorem r_par (q : a σ H fun vs H1 => ∃ v w, vs = [v, w] ∧ D.nx ((σ.set i (some v)).set j (some w)) H1) : tPar i j a D σ H := q
theorem r_two {R : V → V → Prop} (q : R x y) : ∃ v w, [x, y] = [v, w] ∧ R v w := ⟨x, y, rfl, q⟩
theorem r_aug {ti : TIp} (h : σ[i]? = some (some x)) (q : te σ H fun y H1 => ti x y H1 fun z H2 => D.nx (σ.set i (some z)) H2) : tAug i te ti D σ H := ⟨x, h, q⟩
theorem r_gtup {R : L2.St → Hp → Prop} {p : Addr} {xs : List V} (h : SqT K H p xs) (hn : xs.length = n) (q : gs xs σ H R) : gTup K n gs (.ref p) σ H R := ⟨p, xs, rfl, h, hn, q⟩
theorem r_gcons {R : L2.St → Hp → Prop} {vs : List V} (q : g v σ H fun σ' H' => gs vs σ' H' R) : gCons g gs (v :: vs) σ H R := ⟨v, vs, rfl, q⟩
theorem r_gnil {R : L2.St → Hp → Prop} (q : R σ H) : gNil [] σ H R := ⟨rfl, q⟩
theorem r_gsub {R : L2.St → Hp → Prop} {s : TSet} (q : to σ H fun o H1 => ti σ H1 fun i H2 => s o i v H2 fun H3 => R σ H3) : gSub to ti s v σ H R := q
theorem r_ilist {R : It → Hp → Prop} (q : te σ H fun x H1 => ∃ a, x = .ref a ∧ (∃ xs, SqL K H1 a xs) ∧ R (Itl K a) H1) : iList K te σ H R := q
theorem r_itup {R : It → Hp → Prop} (q : te σ H fun x H1 => ∃ a, x = .ref a ∧ (∃ xs, SqT K H1 a xs) ∧ R (Itt K a) H1) : iTup K te σ H R := q
theorem r_istr {R : It → Hp → Prop} (q : te σ H fun v H1 => ∃ x, v = .str x ∧ R (Its x) H1) : iStr te σ H R := q
theorem r_irng1 {R : It → Hp → Prop} (q : a σ H fun vs H1 => ∃ j : Int, vs = [.int j] ∧ -(2 ^ 62) ≤ j ∧ j < 2 ^ 62 ∧ R (Itr 0 j.toNat) H1) : iRng1 a σ H R := q
theorem r_ienum {R : It → Hp → Prop} (q : a σ H fun vs H1 => ∃ p xs, vs = [.ref p] ∧ SqL K H1 p xs ∧ R (Ite K p) H1) : iEnum K a σ H R := q
theorem r_str {z : Str} {R : Str → Prop} (q : R z) : ∃ x, V.str z = .str x ∧ R x := ⟨z, rfl, q⟩
theorem r_yes (q : QT true H) : tYes σ H QT := q
theorem r_two1 {p : Prop} {z : Str} (q : p) : (∃ a, V.str z = .str a) ∧ p := ⟨⟨z, rfl⟩, q⟩
theorem q_i0 {f : Int → Int → V} {i j : Int} (q : Q (f i j) H) : rI0 f (.int i) (.int j) H Q := ⟨i, j, rfl, rfl, q⟩
theorem q_ipI {f : Int → Int → Int} {i j : Int} (q : Q (.int (f i j)) H) : ipI f (.int i) (.int j) H Q := ⟨i, j, rfl, rfl, q⟩
theorem small_n {n : Nat} (h : n ≤ 100) : n ≤ sizeLine := Nat.le_trans h (by decide)
theorem b_t {A B : Prop} (a : A) : if true = true then A else B := by rw [if_pos rfl]; exact a
theorem b_f {A B : Prop} (b : B) : if false = true then A else B := by rw [if_neg Bool.false_ne_true]; exact b
theorem b_nt {A B : Prop} (b : B) : if (!true) = true then A else B := by rw [if_neg (by decide)]; exact b
theorem b_nf {A B : Prop} (a : A) : if (!false) = true then A else B := by rw [if_pos (by decide)]; exact a
theorem bd {p : Prop} [Decidable p] {A B : Prop} (ht : p → A) (hf : ¬ p → B) : if decide p = true then A else B := biff (fun h => ht (of_decide_eq_true h)) (fun h => hf (of_decide_eq_false h))
theorem bnd {p : Prop} [Decidable p] {A B : Prop} (ht : ¬ p → A) (hf : p → B) : if (!decide p) = true then A else B := biff (fun h => ht (by simpa using h)) (fun h => hf (by simpa using h))
theorem bd_t {p : Prop} [Decidable p] {A B : Prop} (h : p) (a : A) : if decide p = true then A else B := by rw [decide_eq_true h, if_pos rfl]; exact a
theorem bd_f {p : Prop} [Decidable p] {A B : Prop} (h : ¬ p) (b : B) : if decide p = true then A else B := by rw [decide_eq_false h, if_neg Bool.false_ne_true]; exact b
theorem bnd_t {p : Prop} [Decidable p] {A B : Prop} (h : ¬ p) (a : A) : if (!decide p) = true then A else B := by rw [decide_eq_false h]; exact b_nf a
theorem bnd_f {p : Prop} [Decidable p] {A B : Prop} (h : p) (b : B) : if (!decide p) = true then A else B := by rw [decide_eq_true h]; exact b_nt b
theorem r_lc {wi : TI} {tt : TT} {vs : List Nat} (q : wi σ H fun J H1 => ∀ D, H1 D = none → ∃ W : Nat → Nat → Hp → Prop, (∃ m, W 0 m (upd H1 D (.lst []))) ∧ ∀ i m H, W i m H →
  (J.stop i H ∧ Q (.ref D) H) ∨ (J.go i H ∧ ∃ Nx : Hp → Prop, (∀ H', Nx H' → ∃ m', m' < m ∧ W (i + 1) m' H') ∧ ∀ x H', J.yld i H x H' → g x (wipe σ vs) H' fun σ2 H2 => wipe σ2 vs = wipe σ vs ∧ tt σ2 H2 fun b H3 =>
    if b = true then te σ2 H3 fun y H4 => ∃ acc, H4 D = some (.lst acc) ∧ acc.length < sizeLine ∧ Nx (upd H4 D (.lst (acc ++ [y]))) else Nx H3)) : tLc wi g tt te vs σ H Q := q
theorem filt_all {α : Type} (l : List α) : (l.filter fun _ => true) = l := List.filter_eq_self.mpr (by simp)
theorem q_u {f : Int → V} {i : Int} (q : Q (f i) H) : rU f (.int i) H Q := ⟨i, rfl, q⟩
theorem map_at {α β : Type} {f : α → β} {l : List α} {i : Nat} {y : β} (h : (l.map f)[i]? = some y) : ∃ x, l[i]? = some x ∧ y = f x := by
  rw [List.getElem?_map] at h
  cases e : l[i]? with
  | none => rw [e] at h; cases h
  | some x => rw [e] at h; exact ⟨x, rfl, (Option.some.inj h).symm⟩
theorem r_mko {C : Addr} {sp : Sp} {dvs : List V} {QX : XK} (q : a σ H fun vs H1 => vs.length ≤ 1000 ∧ ∀ b, H1 b = none → sp (.ref b :: (vs ++ dvs)) (upd H1 b (exo b C none))
  (fun v H2 => v = .non ∧ ∃ (d : Addr) (fs : List (Str × V)), H2 b = some (exo b C (some d)) ∧ H2 d = some (exd d fs) ∧ H1 d = none ∧ QX (.ref C) (some d) (upd (del H2 b) d (.xd fs))) (fun _ _ _ => False)) : tMkO C sp dvs a σ H QX := q
theorem cut_last (xs : List V) : cutV xs none (some (-1)) = xs.dropLast := by
  unfold cutV
  have e : HT.sIx xs.length xs.length (some (-1)) = xs.length - 1 := by
    show (if (-1 : Int) < 0 then ((-1 : Int) + (xs.length : Int)).toNat else min (-1 : Int).toNat xs.length) = xs.length - 1
    rw [if_pos (by decide)]
    omega
  rw [HT.sIx_none, e, List.drop_zero, Nat.sub_zero, List.dropLast_eq_take]
theorem q_cutlast {p : Addr} {xs : List V} (hp : SqL K H p xs) (q : ∀ b, H b = none → Q (.ref b) (upd H b (.lst xs.dropLast))) : rSlA3 K (.ref p) none (some (-1)) H Q := .inl ⟨p, xs, rfl, hp, fun b hb => by rw [cut_last]; exact q b hb⟩
theorem q_rI {C : Int → Int → Prop} {f : Int → Int → V} {i j : Int} (hc : C i j) (q : Q (f i j) H) : rI C f (.int i) (.int j) H Q := ⟨i, j, rfl, rfl, hc, q⟩
theorem q_mulI {i j : Int} (h1 : -(2 ^ 64) < i) (h2 : i < 2 ^ 64) (q : Q (.int (i * j)) H) : rMulA (.int i) (.int j) H Q := .inl ⟨i, j, rfl, rfl, .inl ⟨h1, h2⟩, q⟩
theorem r_new {P : Addr → Prop} {n : Nat} (h : n ≤ 100) (q : ∀ p, P p) : n ≤ sizeLine ∧ ∀ p, P p := ⟨small_n h, q⟩

/-! ### loops -/
def Turn (Pv : L2.St → Hp → Prop) (μ : L2.St → Hp → Nat) (m : Nat) (tb : TS) (D : Ends) (σ : L2.St) (H1 : Hp) : Prop :=
  ∃ N : L2.St → Hp → Prop, (∀ σ' H', N σ' H' → ∃ m', m' < m ∧ (m' = μ σ' H' ∧ Pv σ' H')) ∧ tb { D with nx := N, ct := N, bk := D.nx } σ H1
theorem turn_i {Pv : L2.St → Hp → Prop} {μ : L2.St → Hp → Nat} {m : Nat} (q : t { D with nx := fun σ' H' => Pv σ' H' ∧ μ σ' H' < m, ct := fun σ' H' => Pv σ' H' ∧ μ σ' H' < m, bk := D.nx } σ H) : Turn Pv μ m t D σ H :=
  ⟨_, fun σ' H' ⟨p, l⟩ => ⟨_, l, rfl, p⟩, q⟩
theorem r_while (Pv : L2.St → Hp → Prop) (μ : L2.St → Hp → Nat) (h0 : Pv σ H) (hs : ∀ σ H, Pv σ H → c σ H fun b H1 => if b = true then Turn Pv μ (μ σ H) t D σ H1 else D.nx σ H1) : tWhile c t D σ H :=
  ⟨fun m σ H => m = μ σ H ∧ Pv σ H, ⟨_, rfl, h0⟩, fun m σ H ⟨e, p⟩ => by subst e; exact hs σ H p⟩
theorem r_for {wi : TI} (q : wi σ H fun J H1 => ∃ W : Nat → Nat → L2.St → Hp → Prop, (∃ m, W 0 m σ H1) ∧ ∀ i m σ H, W i m σ H →
  (J.stop i H ∧ D.nx σ H) ∨ (J.go i H ∧ ∃ N : L2.St → Hp → Prop, (∀ σ' H', N σ' H' → ∃ m', m' < m ∧ W (i + 1) m' σ' H') ∧ ∀ x H', J.yld i H x H' → g x σ H' fun σ2 H2 => t { D with nx := N, ct := N, bk := D.nx } σ2 H2)) : tFor wi g t D σ H := q
end
/-! ### data that no list's change touches -/
mutual
def flatD : PyData → Bool
  | .list _ => false
  | .dict _ => false
  | .tuple xs => flatDs xs
  | _ => true
def flatDs : List PyData → Bool
  | [] => true
  | x :: xs => flatD x && flatDs xs
end
/-- all but lists that may change is kept -/
def KeepT (H H' : Hp) : Prop := ∀ b o, H b = some o → (∀ xs, o ≠ .lst xs) → H' b = some o
theorem KeepT.refl (H : Hp) : KeepT H H := fun _ _ h _ => h
theorem KeepT.trans {H H1 H2 : Hp} (a : KeepT H H1) (b : KeepT H1 H2) : KeepT H H2 := fun c o h n => b c o (a c o h n) n
theorem KeepT.of {H H' : Hp} (s : Same H H') : KeepT H H' := fun b o h _ => s b o h
theorem KeepT.upd {H : Hp} {f : Addr} {xs : List V} {o : HO} (h : H f = some (.lst xs)) : KeepT H (upd H f o) := fun b u e n => by
  have nb : b ≠ f := fun z => by
    subst z
    rw [h] at e
    exact n xs (Option.some.inj e).symm
  rw [upd_ne nb]
  exact e
theorem KeepT.new {H : Hp} {f : Addr} {o : HO} (h : H f = none) : KeepT H (L2.upd H f o) := .of (same_new h)
theorem KeepT.seqT {K : PySem.W.Frag} {H H' : Hp} {a : Addr} {xs : List V} (k : KeepT H H') (h : SqT K H a xs) : SqT K H' a xs := by
  rcases h with (h | ⟨o, h⟩) | h
  · exact .inl (.inl (k _ _ h fun ys z => by cases z))
  · exact .inl (.inr ⟨o, k _ _ h fun ys z => by cases z⟩)
  · exact .inr h
mutual
theorem Dp.keep {K : PySem.W.Frag} {H H' : Hp} (k : KeepT H H') : ∀ {v : V} {d : PyData}, Dp K H v d → flatD d = true → Dp K H' v d
  | _, _, .non, _ => .non
  | _, _, .bl b, _ => .bl b
  | _, _, .int i, _ => .int i
  | _, _, .str x, _ => .str x
  | _, _, .lst h1 h2, f => by simp [flatD] at f
  | _, _, .tup h1 h2, f => .tup (k.seqT h1) (DpAll.keep k h2 (by simpa [flatD] using f))
theorem DpAll.keep {K : PySem.W.Frag} {H H' : Hp} (k : KeepT H H') : ∀ {vs : List V} {ds : List PyData}, DpAll K H vs ds → flatDs ds = true → DpAll K H' vs ds
  | _, _, .nil, _ => .nil
  | _, _, .cons a r, f => by
    simp only [flatDs, Bool.and_eq_true] at f
    exact .cons (Dp.keep k a f.1) (DpAll.keep k r f.2)
end
/-- a list of data, flat ones -/
def LstD (K : PySem.W.Frag) (H : Hp) (a : Addr) (ds : List PyData) : Prop := ∃ vs, H a = some (.lst vs) ∧ DpAll K H vs ds
theorem LstD.len {K : PySem.W.Frag} {H : Hp} {a : Addr} {ds : List PyData} {vs : List V} (h : H a = some (.lst vs)) (d : LstD K H a ds) : vs.length = ds.length := by
  obtain ⟨ws, e, r⟩ := d
  rw [h] at e
  cases e
  exact DpAll.length r
theorem LstD.dp {K : PySem.W.Frag} {H : Hp} {a : Addr} {ds : List PyData} (d : LstD K H a ds) : Dp K H (.ref a) (.list ds) := by
  obtain ⟨ws, e, r⟩ := d
  exact .lst (SqL.of e) r
theorem LstD.same {K : PySem.W.Frag} {H H' : Hp} {a : Addr} {ds : List PyData} (s : Same H H') (d : LstD K H a ds) : LstD K H' a ds := by
  obtain ⟨ws, e, r⟩ := d
  exact ⟨ws, s _ _ e, DpAll.same s r⟩
/-- one more behind -/
theorem LstD.more {K : PySem.W.Frag} {H : Hp} {a : Addr} {ds : List PyData} {vs : List V} {v : V} {d : PyData} (h : H a = some (.lst vs)) (r : LstD K H a ds) (hv : Dp K H v d) (f : flatDs (ds ++ [d]) = true) : LstD K (upd H a (.lst (vs ++ [v]))) a (ds ++ [d]) := by
  obtain ⟨ws, e, r⟩ := r
  rw [h] at e
  cases e
  exact ⟨_, upd_same, DpAll.keep (.upd h) (DpAll.app r (.cons hv .nil)) f⟩
theorem flatDs_app : ∀ (a b : List PyData), flatDs (a ++ b) = (flatDs a && flatDs b)
  | [], b => by simp [flatDs]
  | x :: a, b => by
    show (flatD x && flatDs (a ++ b)) = (flatD x && flatDs a && flatDs b)
    rw [flatDs_app a b, Bool.and_assoc]
theorem LstD.extend {K : PySem.W.Frag} {H : Hp} {a b : Addr} {ds es : List PyData} {vs ws : List V} (h : H a = some (.lst vs)) (hb : H b = some (.lst ws)) (r : LstD K H a ds) (r' : LstD K H b es) (f : flatDs (ds ++ es) = true) : LstD K (upd H a (.lst (vs ++ ws))) a (ds ++ es) := by
  obtain ⟨xs, e, r⟩ := r
  rw [h] at e
  cases e
  obtain ⟨ys, e, r'⟩ := r'
  rw [hb] at e
  cases e
  exact ⟨_, upd_same, DpAll.keep (.upd h) (DpAll.app r r') f⟩
end Ak

set_option maxHeartbeats 4000000
/-! AkMore: comprehensions that lay new data; lists of data joined; texts joined. -/
namespace Ak
open PySem PySem.Spec PyProof.Rows L2 TL
theorem DpAll.mem {K : PySem.W.Frag} {H : Hp} : ∀ {vs : List V} {ds : List PyData} {v : V}, DpAll K H vs ds → v ∈ vs → ∃ d ∈ ds, Dp K H v d
  | _, _, _, .nil, h => by simp at h
  | _, _, _, .cons a r, h => by
    rcases List.mem_cons.mp h with rfl | h
    · exact ⟨_, List.mem_cons_self, a⟩
    · obtain ⟨d, hd, q⟩ := DpAll.mem r h
      exact ⟨d, List.mem_cons_of_mem _ hd, q⟩
section
variable {K : PySem.W.Frag} {g : TG} {tt : TT} {te : TE} {σ : L2.St} {H1 : Hp} {i : Nat}
/-- over a list or a tuple; each turn lays new data (no list) -/
theorem lc_dat {J : It} {G : Hp → Prop} {xs : List V} {D : Addr} {Qd : Hp → Prop} (w : Walk J xs.length G (YAt xs)) (f : V → PyData) (hz : xs.length < sizeLine) (hG : ∀ H, Same H1 H → G H) (hfl : flatDs (xs.map f) = true)
    (ht : ∀ x ∈ xs, ∀ (H : Hp) (Q : Bool → Hp → Prop), Same H1 H → Q true H → tt ((wipe σ [i]).set i (some x)) H Q)
    (he : ∀ x ∈ xs, ∀ (H : Hp) (Q : VK), Same H1 H → (∀ H' v, Same H H' → Dp K H' v (f x) → Q v H') → te ((wipe σ [i]).set i (some x)) H Q)
    (hD : H1 D = none) (hd : ∀ H', Same H1 H' → LstD K H' D (xs.map f) → Qd H') :
    ∃ W : Nat → Nat → Hp → Prop, (∃ m, W 0 m (upd H1 D (.lst []))) ∧ ∀ j m H, W j m H →
      (J.stop j H ∧ Qd H) ∨ (J.go j H ∧ ∃ Nx : Hp → Prop, (∀ H', Nx H' → ∃ m', m' < m ∧ W (j + 1) m' H') ∧ ∀ x H', J.yld j H x H' → gName i x (wipe σ [i]) H' fun σ2 H2 => wipe σ2 [i] = wipe σ [i] ∧ tt σ2 H2 fun b H3 =>
        if b = true then te σ2 H3 fun y H4 => ∃ acc, H4 D = some (.lst acc) ∧ acc.length < sizeLine ∧ Nx (upd H4 D (.lst (acc ++ [y]))) else Nx H3) := by
  refine lc_it (g := gName i) w (fun j H => Same H1 H ∧ LstD K H D ((xs.take j).map f)) ⟨same_new hD, [], upd_same, .nil⟩ (fun j H _ e => hG _ e.1) ?_ ?_
  · rintro j x H H' hj ⟨s1, hL⟩ ⟨rfl, hc'⟩
    have hm : x ∈ xs := List.mem_of_getElem? hc'
    have et : xs.take (j + 1) = xs.take j ++ [x] := by
      rw [List.take_add_one, hc']
      rfl
    refine ⟨wipe_one σ i _, ht x hm _ _ s1 ?_⟩
    rw [if_pos rfl]
    refine he x hm _ _ s1 (fun H2 v s2 hv => ?_)
    obtain ⟨vs, hvs, hD2⟩ := hL.same s2
    have hl := DpAll.length hD2
    rw [List.length_map] at hl
    refine ⟨vs, hvs, ?_, ?_, ?_⟩
    · rw [hl, List.length_take]
      omega
    · intro b o e
      rw [upd_ne (ne_of_none e hD)]
      exact s2 _ _ (s1 _ _ e)
    · have e2 : (xs.take (j + 1)).map f = (xs.take j).map f ++ [f x] := by rw [et, List.map_append]; rfl
      rw [e2]
      refine LstD.more hvs ⟨vs, hvs, hD2⟩ hv ?_
      rw [← e2]
      have := flatDs_app ((xs.take (j + 1)).map f) ((xs.drop (j + 1)).map f)
      rw [← List.map_append, List.take_append_drop, hfl] at this
      exact (Bool.and_eq_true _ _ ▸ this.symm).1
  · rintro H ⟨s1, hL⟩
    rw [List.take_length] at hL
    exact hd H s1 hL
end
/-- two lists of data: a + b -/
theorem q_add_d {K : PySem.W.Frag} {H : Hp} {Q : VK} {a b : Addr} {ds es : List PyData} (ha : LstD K H a ds) (hb : LstD K H b es) (hz : ds.length + es.length ≤ 10000000) (q : ∀ p H', H p = none → Same H H' → LstD K H' p (ds ++ es) → Q (.ref p) H') : rAddA K (.ref a) (.ref b) H Q := by
  obtain ⟨vs, h1, r1⟩ := ha
  obtain ⟨ws, h2, r2⟩ := hb
  have l1 := DpAll.length r1
  have l2 := DpAll.length r2
  exact q_add_lst h1 h2 (by omega) fun p hp => q p _ hp (same_new hp) ⟨_, upd_same, DpAll.same (same_new hp) (DpAll.app r1 r2)⟩
theorem txs_of {A : List Nat → Prop} : ∀ {vs : List V}, (∀ v ∈ vs, ∃ z, A z ∧ v = .str (tx z)) → ∃ zs : List (List Nat), vs = zs.map (fun z => V.str (tx z)) ∧ ∀ z ∈ zs, A z
  | [], _ => ⟨[], rfl, by simp⟩
  | v :: vs, h => by
    obtain ⟨z, hz, rfl⟩ := h v List.mem_cons_self
    obtain ⟨zs, rfl, h2⟩ := txs_of (vs := vs) fun x hx => h x (List.mem_cons_of_mem _ hx)
    exact ⟨z :: zs, rfl, fun y hy => by
      rcases List.mem_cons.mp hy with rfl | hy
      · exact hz
      · exact h2 y hy⟩
theorem join0 : ∀ zs : List (List Nat), Txt.join (tx []) (zs.map tx) = tx zs.flatten := by
  intro zs
  rw [join_eq]
  induction zs with
  | nil => rfl
  | cons z zs ih =>
    cases zs with
    | nil => simp [Str.join]
    | cons y r =>
      have e : Str.join (tx []) ((z :: y :: r).map tx) = tx z ++ tx [] ++ Str.join (tx []) ((y :: r).map tx) := rfl
      rw [e, ih, tx_app, tx_app]
      simp
def rJoinK (K : PySem.W.Frag) : V → List V → Hp → VK → Prop := fun x xs H Q => ∃ a p, ∃ ys : List Str, x = .str a ∧ xs = [.ref p] ∧ (SqL K H p (ys.map V.str) ∨ SqT K H p (ys.map V.str)) ∧ (ys.map (·.length)).sum + ys.length * a.length ≤ 16777216 ∧ Q (.str (Txt.join a ys)) H
/-- o.join(e), within a comprehension too -/
theorem pe_joinK {X : Cx} {K : PySem.W.Frag} {o e : Expr} {to te : TE} {apos pos : Pos} (hK : X.K = K) (ho : PE X o to) (he : PE X e te) (hs : starEach [e] X.env = [(false, eval e X.env)] := by rfl) (hbase : attributeBase o "join" X.env (eval o X.env) = eval o X.env := by rfl) (hline : (apos.endLine == pos.line) = true := by rfl) :
    PE X (.Call (.Attribute o "join" apos) [e] [] pos) (tM1 (rJoinK K) to te) := by
  subst hK
  exact pe_join ho he hs hbase hline
end Ak

set_option maxHeartbeats 4000000
/-! AkEnd: the head for a law whose def may call repr (Quiet). -/
namespace Ak
open PySem PySem.Spec PyProof.Rows L2
/-- the heap told of: the script, if the module does not hold it itself -/
theorem script_heap {P : Program} {w : World} {K : PySem.W.Frag} {h : Heap} {a : Addr} {vs : List Value} {ns : List Int} (KX : K.In h) (ha : h.get? a = some { cls := .type "list", data := .seq vs.toArray }) (hi : IntsAre vs ns) (hl : ns.length ≤ sizeLine) :
    ∃ H : Hp, SqL K H a (ns.map V.int) ∧ HOk P w H h ∧ ∀ b u, H b = some u → b = a ∧ K.lookup a = none ∧ u = .frz { cls := .type "list", data := .seq vs.toArray } (.lst (ns.map V.int)) := by
  have rv := vals_ints hi
  cases hk : K.lookup a with
  | none =>
    refine ⟨fun b => if b = a then some (.frz { cls := .type "list", data := .seq vs.toArray } (.lst (ns.map V.int))) else none, .inl (.inr ⟨_, if_pos rfl⟩), fun b u z => ?_, fun b u z => ?_⟩
    · by_cases hb : b = a
      · subst hb
        have z' := (if_pos rfl).symm.trans z
        cases z'
        exact ⟨ha, by rw [List.length_map]; exact hl, vs, _, rv, ha⟩
      · cases (if_neg hb).symm.trans z
    · by_cases hb : b = a
      · exact ⟨hb, rfl, (Option.some.inj ((if_pos hb).symm.trans z)).symm⟩
      · cases (if_neg hb).symm.trans z
  | some o =>
    have e := KX a o hk
    rw [ha] at e
    cases e
    exact ⟨fun _ => none, .inr ⟨_, vs.toArray, _, hk, rfl, rfl, rfl, by rw [List.size_toArray, hi.length]; exact hl, by simpa using rv⟩, (fun b u z => nomatch (show (none : Option HO) = some u from z)), (fun b u z => nomatch (show (none : Option HO) = some u from z))⟩
/-- the law's def, called by the judge -/
theorem quiet_ends {P : Program} {w : World} {K : PySem.W.Frag} {mg mb : Str → Option Value} {k : Nat} {fa a : Addr} {fd : FuncData} {x : Str} {sp : Sp} {s₁ : Shared} {vs : List Value} {ns : List Int}
    (KX : K.In s₁.heap) (hns : s₁.heap.Ns mainGlobals mg) (hb : s₁.heap.Ns builtinsNs mb) (hbb : ∀ x : Str, x ≠ "__name__" → mb x = bootBuiltins x) (hlim : s₁.heap.NoLimit) (hg : s₁.gens = #[])
    (ha : s₁.heap.get? a = some { cls := .type "list", data := .seq vs.toArray }) (hi : IntsAre vs ns) (hl : ns.length ≤ sizeLine) (hr : Room k callerA) (hq : callerA.guards = some [])
    (F : ∀ base : Heap, K.In base → base.Ns mainGlobals mg → Ak.Quiet P w K mg base CX0 k fa fd [x] sp) (hbind : ∀ (s : Shared) (u : Value), BindsTo s fd ⟨[u], []⟩ [(x, u)])
    (hsp : ∀ H : Hp, SqL K H a (ns.map V.int) → sp [.ref a] H (fun v _ => v = .bl true) fun _ _ _ => False) :
    codeAny (model P w) callerA (.call (.ref fa) ⟨[.ref a], []⟩) (fun r s' => r = .ok (.ret (.bool true)) ∧ OldK s₁.heap s'.heap ∧ s'.os = s₁.os ∧ AllBare s'.gens) s₁ := by
  obtain ⟨H, hS, hok, hH⟩ := script_heap (P := P) (w := w) KX ha hi hl
  have low : ∀ {b : Addr} {q : Obj}, s₁.heap.get? b = some q → (b = a → K.lookup a = none → False) → (hidT s₁.heap H).get? b = some q := fun {b q} e no => hidT_get e (by
    cases z : H b with
    | none => rfl
    | some u => exact (no (hH b u z).1 (hH b u z).2.1).elim)
  have lowN : ∀ {b : Addr} {m : Str → Option Value}, s₁.heap.Ns b m → (hidT s₁.heap H).Ns b m := by
    rintro b m ⟨q, es, ep, e, d, r⟩
    refine ⟨q, es, ep, low e fun z _ => ?_, d, r⟩
    subst z
    rw [ha] at e
    cases e
    cases d
  have lowK : K.In (hidT s₁.heap H) := fun b q e => low (KX b q e) fun z n => by
    subst z
    rw [n] at e
    cases e
  obtain ⟨mc, l1, l2⟩ := hlim
  have none0 : ∀ {b : Addr}, b ∉ frs ([] : List Env) := fun {b} z => by simp [frs] at z
  have e0 : Env0 P w K mg (hidT s₁.heap H) callerA [] s₁ H :=
    ⟨rfl, ⟨lowK, lowN hns, ⟨mb, lowN hb, hbb⟩, mc, lowN l1, l2⟩, fun b q e => of_hidT e, Nat.le_of_eq (hidT_size _ _), trivial, fun b z => (none0 z).elim, hok, .of_eq hg⟩
  have go := (F _ lowK (lowN hns)).goes callerA [] s₁ H ⟨[.ref a], []⟩ [.ref a] [.ref a] _ _ hq hr e0 (hbind s₁ (.ref a)) (.cons rfl .nil) (hsp H hS)
  refine codeAny_mono go fun r s' h => ?_
  match r, h with
  | .error _, h => exact h.elim
  | .ok .next, h => exact h.elim
  | .ok .brk, h => exact h.elim
  | .ok .cont, h => exact h.elim
  | .ok (.ret u), ⟨v, H', os, bare, un, hok', rv, q⟩ =>
    have q' : v = .bl true := q
    subst q'
    obtain rfl : u = Value.bool true := rv
    refine ⟨rfl, OldK.of_keep fun b o e => ?_, os, bare⟩
    cases z : H b with
    | none => exact un.keep b o e z none0 (by simp)
    | some u =>
      obtain ⟨_, _, rfl⟩ := hH b u z
      have e1 := (hok b _ z).1
      have e2 := (hok' b _ (un.frzs b _ _ z)).1
      rw [e] at e1
      cases e1
      exact e2
/-- what the head leaves, from a quiet law's promise -/
theorem walk_ofQ {l : PySem.W.OpenLaw} {n k : Nat} {q : Program} {loose : List Str} {XP : (Str → Option Value) → Heap → Prop} {YP : World → Heap → Prop} {d : DefRec} {K : Params → PySem.W.Frag} {sp : PySem.W.Frag → Sp} {x : Str}
    (hn : l.most = some n) (hn2 : n ≤ sizeLine) (hdf : d.params.defaults = []) (hr : Room k callerA) (hq : callerA.guards = some []) (hY : ∀ (w : World) (h : Heap), YP w h → (K w.params).In h)
    (F : ∀ (w : World) (mg : Str → Option Value) (fa : Addr) (h : Heap), (K w.params).In h → h.Ns mainGlobals mg → mg d.name = some (.ref fa) →
      ∃ fd : FuncData, (∀ (s : Shared) (u : Value), BindsTo s fd ⟨[u], []⟩ [(x, u)]) ∧ ∀ base : Heap, (K w.params).In base → base.Ns mainGlobals mg → Ak.Quiet l.prog w (K w.params) mg base CX0 k fa fd [x] (sp (K w.params)))
    (hsp : ∀ (K : PySem.W.Frag) (H : Hp) (a : Addr) (ns : List Int), ns.length ≤ n → (∀ z ∈ ns, Builtin.Int.intBits z ≤ 1048576) → SqL K H a (ns.map V.int) → sp K [.ref a] H (fun v _ => v = .bl true) fun _ _ _ => False) :
    PySem.W.WalkO q loose XP YP l.row.toRowW d [] (fun f vs => PySem.call f vs) := by
  refine Att.attach_callB hn hdf fun w s₀ s₁ mg mb fa o pm cd doc a vs ns G Y ho hd hcd hmg hobj hints hlen hbits hg => ?_
  obtain ⟨fd, hb, hF⟩ := F w mg fa _ (hY w _ Y) G.T.g hmg
  exact quiet_ends (hY w _ Y) G.T.g G.T.b G.T.builtins G.T.nolimit hg hobj hints (Nat.le_trans hlen hn2) hr hq hF hb fun H hS => hsp (K w.params) H a ns hlen hbits hS
end Ak

/-! Tk: tokens over lists of signs, in plain Lean. -/
namespace Tk
open Ak (cs)
abbrev Cs := List Nat
def isDig (c : Nat) : Bool := decide (48 ≤ c) && decide (c ≤ 57)
def isSml (c : Nat) : Bool := decide (97 ≤ c) && decide (c ≤ 122)
def isGrt (c : Nat) : Bool := decide (65 ≤ c) && decide (c ≤ 90)
def isRun (c : Nat) : Bool := isSml c || isGrt c || isDig c || (c == 95)
/-- the sorts: figures, word, name, ask, sign, none, end -/
def sFig : Cs := cs "figures"
def sWord : Cs := cs "word"
def sName : Cs := cs "name"
def sAsk : Cs := cs "ask"
def sSign : Cs := cs "sign"
def sNone : Cs := cs "none"
def sEnd : Cs := cs "end"
def reserved : List Cs := (["ask", "do", "else", "end", "false", "fn", "fst", "handle", "if", "in", "let", "match", "module", "rec", "return", "snd", "then", "true", "use", "with", "int", "bool", "unit"] : List String).map cs
def singles : Cs := cs "()[],:=<+-*|"
def isNameT (r : Cs) : Bool := (decide (1 ≤ r.length) && decide (r.length ≤ 12)) && (isSml (r.headD 0) && r.all fun c => isSml c || isDig c || (c == 95)) && !(reserved.contains r)
def isAskT (r : Cs) : Bool := (decide (1 ≤ r.length) && decide (r.length ≤ 12)) && (isGrt (r.headD 0) && r.all fun c => isSml c || isGrt c || isDig c)
/-- the package's way -/
def sortOf (r : Cs) : Cs := if r.all isDig then sFig else if reserved.contains r then sWord else if isNameT r then sName else if isAskT r then sAsk else sNone
/-- the law's way -/
def sortLaw (r : Cs) : Cs :=
  if reserved.contains r then sWord else if (r.filter fun c => !isDig c) = [] then sFig
  else if 12 < r.length ∨ (isDig (r.headD 0) || (r.headD 0 == 95)) = true then sNone
  else if isSml (r.headD 0) then (if (r.filter isGrt) = [] then sName else sNone)
  else if !(r.contains 95) then sAsk else sNone
theorem res_not_dig : ∀ r ∈ reserved, r.all isDig = false := by decide
theorem res_small : ∀ r ∈ reserved, (isSml (r.headD 0) && r.all fun c => isSml c || isDig c || (c == 95)) = true := by decide
theorem run_of {c : Nat} (h : isRun c = true) : isSml c = true ∨ isGrt c = true ∨ isDig c = true ∨ c = 95 := by
  simp only [isRun, Bool.or_eq_true, beq_iff_eq] at h
  rcases h with ((h | h) | h) | h
  · exact .inl h
  · exact .inr (.inl h)
  · exact .inr (.inr (.inl h))
  · exact .inr (.inr (.inr h))
theorem apart (c : Nat) : (isSml c = true → isGrt c = false ∧ isDig c = false ∧ c ≠ 95) ∧ (isGrt c = true → isSml c = false ∧ isDig c = false ∧ c ≠ 95) ∧ (isDig c = true → isSml c = false ∧ isGrt c = false ∧ c ≠ 95) ∧
    (c = 95 → isSml c = false ∧ isGrt c = false ∧ isDig c = false) := by
  simp only [isSml, isGrt, isDig, Bool.and_eq_true, decide_eq_true_eq, Bool.and_eq_false_iff, decide_eq_false_iff_not]
  omega
theorem sort_same {r : Cs} (hn : r ≠ []) (hr : r.all isRun = true) : sortLaw r = sortOf r := by
  have hall := List.all_eq_true.mp hr
  have edig : ((r.filter fun c => !isDig c) = []) ↔ r.all isDig = true := by
    rw [List.filter_eq_nil_iff, List.all_eq_true]
    constructor
    · intro h c hc
      have := h c hc
      simpa using this
    · intro h c hc
      simp [h c hc]
  unfold sortLaw sortOf
  by_cases h1 : reserved.contains r = true
  · have hm : r ∈ reserved := by simpa using h1
    have h2 := res_not_dig r hm
    simp only [h1, h2, if_true, Bool.false_eq_true, if_false]
  · have h1' : reserved.contains r = false := by simpa using h1
    by_cases h2 : r.all isDig = true
    · rw [if_neg h1, if_pos (edig.mpr h2), if_pos h2]
    · rw [if_neg h1, if_neg (fun z => h2 (edig.mp z)), if_neg h2, if_neg h1]
      cases r with
      | nil => exact absurd rfl hn
      | cons c t =>
        show (if 12 < (c :: t).length ∨ (isDig c || (c == 95)) = true then sNone else if isSml c then (if ((c :: t).filter isGrt) = [] then sName else sNone) else if !((c :: t).contains 95) then sAsk else sNone) = if isNameT (c :: t) then sName else if isAskT (c :: t) then sAsk else sNone
        have hc := hall c List.mem_cons_self
        obtain ⟨a1, a2, a3, a4⟩ := apart c
        by_cases hl : 12 < (c :: t).length
        · rw [if_pos (Or.inl hl)]
          have e1 : isNameT (c :: t) = false := by
            unfold isNameT
            rw [decide_eq_false (show ¬ (c :: t).length ≤ 12 by omega)]
            simp
          have e2 : isAskT (c :: t) = false := by
            unfold isAskT
            rw [decide_eq_false (show ¬ (c :: t).length ≤ 12 by omega)]
            simp
          rw [e1, e2]
          rfl
        · have l1 : decide (1 ≤ (c :: t).length) = true := decide_eq_true (by simp)
          have l2 : decide ((c :: t).length ≤ 12) = true := decide_eq_true (by omega)
          rcases run_of hc with k | k | k | k
          · -- small
            obtain ⟨b1, b2, b3⟩ := a1 k
            rw [if_neg (by simp only [b2, beq_false_of_ne b3, Bool.or_false, Bool.false_eq_true, or_false]; exact hl), if_pos k]
            have e2 : isAskT (c :: t) = false := by
              unfold isAskT
              simp [b1]
            have e1 : isNameT (c :: t) = decide (((c :: t).filter isGrt) = []) := by
              unfold isNameT
              rw [l1, l2, h1', List.headD_cons, k]
              simp only [Bool.and_self, Bool.true_and, Bool.not_false, Bool.and_true]
              rw [Bool.eq_iff_iff, List.all_eq_true, decide_eq_true_eq, List.filter_eq_nil_iff]
              constructor
              · intro h x hx hg
                obtain ⟨_, q, _, _⟩ := apart x
                obtain ⟨q1, q2, q3⟩ := q hg
                have := h x hx
                simp [q1, q2, q3] at this
              · intro h x hx
                rcases run_of (hall x hx) with y | y | y | y
                · simp [y]
                · exact absurd y (h x hx)
                · simp [y]
                · simp [y]
            rw [e1, e2]
            by_cases z : ((c :: t).filter isGrt) = []
            · rw [if_pos z, decide_eq_true z]; rfl
            · rw [if_neg z, decide_eq_false z]; rfl
          · -- great
            obtain ⟨b1, b2, b3⟩ := a2 k
            rw [if_neg (by simp only [b2, beq_false_of_ne b3, Bool.or_false, Bool.false_eq_true, or_false]; exact hl), if_neg (by rw [b1]; exact Bool.false_ne_true)]
            have e1 : isNameT (c :: t) = false := by
              unfold isNameT
              simp [b1]
            have e2 : isAskT (c :: t) = !((c :: t).contains 95) := by
              unfold isAskT
              rw [l1, l2, List.headD_cons, k]
              simp only [Bool.and_self, Bool.true_and]
              rw [Bool.eq_iff_iff, List.all_eq_true, Bool.not_eq_true', Bool.eq_false_iff, ne_eq, List.contains_iff_mem]
              constructor
              · intro h hx
                have := h 95 hx
                revert this
                decide
              · intro h x hx
                rcases run_of (hall x hx) with y | y | y | y
                · simp [y]
                · simp [y]
                · simp [y]
                · subst y
                  exact absurd hx h
            rw [e1, e2]
            by_cases z : (c :: t).contains 95 = true
            · rw [z]; rfl
            · rw [Bool.eq_false_iff.mpr z]; rfl
          · -- digit
            obtain ⟨b1, b2, b3⟩ := a3 k
            rw [if_pos (Or.inr (by rw [k]; rfl))]
            have e1 : isNameT (c :: t) = false := by
              unfold isNameT
              simp [b1]
            have e2 : isAskT (c :: t) = false := by
              unfold isAskT
              simp [b2]
            rw [e1, e2]; rfl
          · obtain ⟨b1, b2, b3⟩ := a4 k
            rw [if_pos (Or.inr (by rw [beq_iff_eq.mpr k]; simp))]
            have e1 : isNameT (c :: t) = false := by
              unfold isNameT
              simp [b1]
            have e2 : isAskT (c :: t) = false := by
              unfold isAskT
              simp [b2]
            rw [e1, e2]; rfl

/-! ### tokens of a line, of lines -/
structure T where
  sort : Cs
  text : Cs
  row : Nat
  col : Nat
  deriving DecidableEq
def runOf (rest : Cs) : Cs := rest.takeWhile isRun
def isTwo (rest : Cs) : Bool := decide (rest.take 2 = cs "->") || decide (rest.take 2 = cs "::")
/-- sort and length of the token at the head (no blank, no remark) -/
def tokAt (rest : Cs) : Cs × Nat :=
  if runOf rest ≠ [] then (sortOf (runOf rest), (runOf rest).length)
  else if isTwo rest then (sSign, 2)
  else if singles.contains (rest.headD 0) then (sSign, 1) else (sNone, 1)
def rowT (row : Nat) : Nat → Cs → Nat → List T
  | 0, _, _ => []
  | _ + 1, [], _ => []
  | n + 1, c :: r, col =>
    if c = 35 then [] else if c = 32 then rowT row n r (col + 1)
    else ⟨(tokAt (c :: r)).1, (c :: r).take (tokAt (c :: r)).2, row, col⟩ :: (if (tokAt (c :: r)).1 = sNone then [] else rowT row n ((c :: r).drop (tokAt (c :: r)).2) (col + (tokAt (c :: r)).2))
theorem tokAt_pos (rest : Cs) : 1 ≤ (tokAt rest).2 := by
  unfold tokAt
  split
  · rename_i h
    exact List.length_pos_iff.mpr h
  · split
    · decide
    · split <;> decide
theorem rowT_fuel (row : Nat) : ∀ (n m : Nat) (rest : Cs) (col : Nat), rest.length ≤ n → rest.length ≤ m → rowT row n rest col = rowT row m rest col := by
  intro n
  induction n with
  | zero =>
    intro m rest col h1 h2
    have : rest = [] := List.length_eq_zero_iff.mp (by omega)
    subst this
    cases m <;> rfl
  | succ n ih =>
    intro m rest col h1 h2
    cases rest with
    | nil => cases m <;> rfl
    | cons c r =>
      cases m with
      | zero => simp at h2
      | succ m =>
        have l1 : r.length ≤ n := by simpa using h1
        have l2 : r.length ≤ m := by simpa using h2
        have p := tokAt_pos (c :: r)
        unfold rowT
        rw [ih m r (col + 1) l1 l2, ih m ((c :: r).drop (tokAt (c :: r)).2) (col + (tokAt (c :: r)).2) (by rw [List.length_drop]; simp only [List.length_cons] at *; omega) (by rw [List.length_drop]; simp only [List.length_cons] at *; omega)]
/-- a line's tokens from a place on -/
def row1 (row : Nat) (rest : Cs) (col : Nat) : List T := rowT row rest.length rest col
theorem row1_nil (row col : Nat) : row1 row [] col = [] := rfl
theorem row1_hash (row col : Nat) (r : Cs) : row1 row (35 :: r) col = [] := by
  show rowT row (r.length + 1) (35 :: r) col = []
  unfold rowT
  rw [if_pos rfl]
theorem row1_sp (row col : Nat) (r : Cs) : row1 row (32 :: r) col = row1 row r (col + 1) := by
  show rowT row (r.length + 1) (32 :: r) col = _
  unfold rowT
  rw [if_neg (by decide), if_pos rfl]
  rfl
theorem row1_tok (row col : Nat) {c : Nat} {r : Cs} (h1 : c ≠ 35) (h2 : c ≠ 32) : row1 row (c :: r) col =
    ⟨(tokAt (c :: r)).1, (c :: r).take (tokAt (c :: r)).2, row, col⟩ :: (if (tokAt (c :: r)).1 = sNone then [] else row1 row ((c :: r).drop (tokAt (c :: r)).2) (col + (tokAt (c :: r)).2)) := by
  show rowT row (r.length + 1) (c :: r) col = _
  have p := tokAt_pos (c :: r)
  unfold rowT
  rw [if_neg h1, if_neg h2]
  unfold row1
  rw [rowT_fuel row r.length ((c :: r).drop (tokAt (c :: r)).2).length _ _ (by rw [List.length_drop]; simp only [List.length_cons]; omega) (Nat.le_refl _)]
def lastNone (f : List T) : Bool := match f.getLast? with
  | some t => decide (t.sort = sNone)
  | none => false
/-- the lines from one on, behind what was found; many: how many lines there are, the last one's length -/
def linesT (endT : T) : Nat → List Cs → List T → List T
  | _, [], acc => acc ++ [endT]
  | row, l :: ls, acc => if lastNone (acc ++ row1 row l 0) then acc ++ row1 row l 0 else linesT endT (row + 1) ls (acc ++ row1 row l 0)
/-- the lines of a text -/
def linesOf : Cs → List Cs
  | [] => [[]]
  | c :: r => if c = 10 then [] :: linesOf r else match linesOf r with
    | [] => [[c]]
    | l :: ls => (c :: l) :: ls
theorem linesOf_ne (x : Cs) : linesOf x ≠ [] := by
  cases x with
  | nil => simp [linesOf]
  | cons c r =>
    unfold linesOf
    split
    · simp
    · split <;> simp
def endOf (x : Cs) : T := ⟨sEnd, [], (linesOf x).length - 1, ((linesOf x).getLast (linesOf_ne x)).length⟩
/-- THE SPEC: all tokens up to the first that is none; behind them END, or that -/
def toksOf (x : Cs) : List T := linesT (endOf x) 0 (linesOf x) []
end Tk

/-! Tk2: texts read from the left; texts laid piece by piece. -/
namespace Tk
open Ak (cs)
/-- reading from a place (row, column) on: what is found, the END or the first that is none behind it -/
inductive Scan : Nat → Nat → Cs → List T → Prop
  | nil {r c : Nat} : Scan r c [] [⟨sEnd, [], r, c⟩]
  | nl {r c : Nat} {x : Cs} {o : List T} : Scan (r + 1) 0 x o → Scan r c (10 :: x) o
  | sp {r c : Nat} {x : Cs} {o : List T} : Scan r (c + 1) x o → Scan r c (32 :: x) o
  | hash {r c : Nat} {m x : Cs} {o : List T} : 10 ∉ m → (x = [] ∨ ∃ y, x = 10 :: y) → Scan r (c + (m.length + 1)) x o → Scan r c (35 :: (m ++ x)) o
  | tok {r c z : Nat} {x : Cs} {o : List T} : z ≠ 10 → z ≠ 32 → z ≠ 35 → (tokAt (z :: x)).1 ≠ sNone → Scan r (c + (tokAt (z :: x)).2) ((z :: x).drop (tokAt (z :: x)).2) o →
      Scan r c (z :: x) (⟨(tokAt (z :: x)).1, (z :: x).take (tokAt (z :: x)).2, r, c⟩ :: o)
  | bad {r c z : Nat} {x : Cs} : z ≠ 10 → z ≠ 32 → z ≠ 35 → (tokAt (z :: x)).1 = sNone → Scan r c (z :: x) [⟨sNone, (z :: x).take (tokAt (z :: x)).2, r, c⟩]

/-- a text's first line, and what stands behind it -/
theorem first_line (x : Cs) : ∃ l ls b, linesOf x = l :: ls ∧ x = l ++ b ∧ 10 ∉ l ∧ ((b = [] ∧ ls = []) ∨ ∃ y, b = 10 :: y ∧ linesOf y = ls) := by
  induction x with
  | nil => exact ⟨[], [], [], rfl, rfl, by simp, .inl ⟨rfl, rfl⟩⟩
  | cons c r ih =>
    by_cases hc : c = 10
    · subst hc
      exact ⟨[], linesOf r, 10 :: r, by simp [linesOf], rfl, by simp, .inr ⟨r, rfl, rfl⟩⟩
    · obtain ⟨l, ls, b, h1, h2, h3, h4⟩ := ih
      refine ⟨c :: l, ls, b, ?_, by rw [h2]; rfl, by simp only [List.mem_cons, not_or]; exact ⟨fun e => hc e.symm, h3⟩, h4⟩
      unfold linesOf
      rw [if_neg hc, h1]
theorem lines_app {l b : Cs} (h : 10 ∉ l) {l2 : Cs} {ls : List Cs} (e : linesOf b = l2 :: ls) : linesOf (l ++ b) = (l ++ l2) :: ls := by
  induction l with
  | nil => exact e
  | cons c l ih =>
    simp only [List.mem_cons, not_or] at h
    show linesOf (c :: (l ++ b)) = _
    unfold linesOf
    rw [if_neg (fun z => h.1 z.symm), ih h.2]
    rfl
theorem nl_not_run : isRun 10 = false := by decide
theorem takeWhile_stop {l b : Cs} (hb : b = [] ∨ ∃ y, b = 10 :: y) : (l ++ b).takeWhile isRun = l.takeWhile isRun := by
  induction l with
  | nil =>
    rcases hb with rfl | ⟨y, rfl⟩
    · rfl
    · simp [List.takeWhile, nl_not_run]
  | cons c l ih =>
    show List.takeWhile isRun (c :: (l ++ b)) = List.takeWhile isRun (c :: l)
    simp only [List.takeWhile]
    cases isRun c with
    | true => simp only; rw [ih]
    | false => rfl
theorem tokAt_line {z : Nat} {l b : Cs} (hb : b = [] ∨ ∃ y, b = 10 :: y) : tokAt (z :: (l ++ b)) = tokAt (z :: l) := by
  have e1 : runOf (z :: (l ++ b)) = runOf (z :: l) := takeWhile_stop (l := z :: l) hb
  have e2 : isTwo (z :: (l ++ b)) = isTwo (z :: l) := by
    cases l with
    | nil =>
      rcases hb with rfl | ⟨y, rfl⟩
      · rfl
      · have q : cs "->" = [45, 62] := by decide
        have q2 : cs "::" = [58, 58] := by decide
        unfold isTwo
        rw [q, q2]
        simp
    | cons c l => rfl
  unfold tokAt
  rw [e1, e2]
  rfl
theorem tokAt_le (z : Nat) (l : Cs) : (tokAt (z :: l)).2 ≤ (z :: l).length := by
  unfold tokAt
  split
  · exact (List.takeWhile_sublist _).length_le
  · split
    · rename_i h
      cases l with
      | nil =>
        have q : isTwo [z] = false := by
          have q : cs "->" = [45, 62] := by decide
          have q2 : cs "::" = [58, 58] := by decide
          unfold isTwo
          rw [q, q2]
          simp
        rw [q] at h
        cases h
      | cons c l => simp
    · split <;> simp
theorem lastNone_append (f : List T) (t : T) : lastNone (f ++ [t]) = decide (t.sort = sNone) := by
  unfold lastNone
  rw [List.getLast?_append]
  rfl
/-- what is scanned is what the lines tell -/
theorem scan_lines {r c : Nat} {x : Cs} {o : List T} (h : Scan r c x o) : ∀ (l : Cs) (ls : List Cs) (f : List T) (E : T), linesOf x = l :: ls → lastNone f = false →
    E = ⟨sEnd, [], r + ls.length, match ls.getLast? with | none => c + l.length | some m => m.length⟩ →
    (if lastNone (f ++ row1 r l c) then f ++ row1 r l c else linesT E (r + 1) ls (f ++ row1 r l c)) = f ++ o := by
  induction h with
  | nil =>
    rename_i r c
    intro l ls f E e hf hE
    obtain ⟨rfl, rfl⟩ : [] = l ∧ [] = ls := by
      have e' : ([[]] : List Cs) = l :: ls := e
      injection e' with e1 e2
      exact ⟨e1, e2⟩
    rw [row1_nil, List.append_nil, hf, hE]
    rfl
  | @nl r c x o h ih =>
    intro l ls f E e hf hE
    have e' : [] :: linesOf x = l :: ls := by simpa [linesOf] using e
    injection e' with e1 e2
    subst e1
    rw [row1_nil, List.append_nil, hf]
    obtain ⟨l2, ls2, b, h1, _⟩ := first_line x
    rw [h1] at e2
    subst e2
    have := ih l2 ls2 f E h1 hf (by
      rw [hE]
      congr 1
      · simp only [List.length_cons]; omega
      · rw [List.getLast?_cons]
        cases ls2.getLast? with
        | none => simp
        | some m => rfl)
    exact this
  | @sp r c x o h ih =>
    intro l ls f E e hf hE
    obtain ⟨l2, ls2, b, h1, _⟩ := first_line x
    have e' : (32 :: l2) :: ls2 = l :: ls := by
      rw [← e]
      unfold linesOf
      rw [if_neg (by decide), h1]
    injection e' with e1 e2
    subst e1 e2
    rw [row1_sp]
    refine ih l2 ls2 f E h1 hf ?_
    rw [hE]
    congr 1
    cases ls2.getLast? with
    | none => simp only [List.length_cons]; omega
    | some m => rfl
  | @hash r c m x o hm hx h ih =>
    intro l ls f E e hf hE
    obtain ⟨l2, ls2, b, h1, _⟩ := first_line x
    have e' : (35 :: m ++ l2) :: ls2 = l :: ls := by
      rw [← e]
      exact (lines_app (l := 35 :: m) (b := x) (by simp only [List.mem_cons, not_or]; exact ⟨by decide, hm⟩) h1).symm
    have hl : l2 = [] := by
      rcases hx with rfl | ⟨y, rfl⟩
      · have : ([[]] : List Cs) = l2 :: ls2 := h1
        injection this with a _
        exact a.symm
      · have : [] :: linesOf y = l2 :: ls2 := by simpa [linesOf] using h1
        injection this with a _
        exact a.symm
    subst hl
    injection e' with e1 e2
    subst e1 e2
    rw [List.cons_append, row1_hash]
    have := ih [] ls2 f E h1 hf (by
      rw [hE]
      congr 1
      cases ls2.getLast? with
      | none => simp
      | some m => rfl)
    rw [row1_nil] at this
    exact this
  | @tok r c z x o hz1 hz2 hz3 hs h ih =>
    intro l ls f E e hf hE
    obtain ⟨l1, ls1, b, h1, h2, h3, h4⟩ := first_line x
    have e' : (z :: l1) :: ls1 = l :: ls := by
      rw [← e]
      unfold linesOf
      rw [if_neg hz1, h1]
    injection e' with e1 e2
    subst e1 e2
    have hb : b = [] ∨ ∃ y, b = 10 :: y := by
      rcases h4 with ⟨q, _⟩ | ⟨y, q, _⟩
      · exact .inl q
      · exact .inr ⟨y, q⟩
    have eT : tokAt (z :: x) = tokAt (z :: l1) := by rw [h2]; exact tokAt_line hb
    have le : (tokAt (z :: l1)).2 ≤ (z :: l1).length := tokAt_le z l1
    rw [row1_tok _ _ hz3 hz2, ← eT, if_neg hs]
    have etake : (z :: x).take (tokAt (z :: x)).2 = (z :: l1).take (tokAt (z :: x)).2 := by
      rw [h2]
      show List.take _ (z :: l1 ++ b) = _
      rw [← h2, eT, List.take_append_of_le_length le]
    have edrop : (z :: x).drop (tokAt (z :: x)).2 = (z :: l1).drop (tokAt (z :: x)).2 ++ b := by
      rw [h2]
      show List.drop _ (z :: l1 ++ b) = _
      rw [← h2, eT, List.drop_append_of_le_length le]
    have hln : linesOf ((z :: x).drop (tokAt (z :: x)).2) = ((z :: l1).drop (tokAt (z :: x)).2) :: ls1 := by
      rw [edrop]
      have hnl : 10 ∉ (z :: l1).drop (tokAt (z :: x)).2 := fun hm => by
        have := List.mem_of_mem_drop hm
        rcases List.mem_cons.mp this with q | q
        · exact hz1 q.symm
        · exact h3 q
      have hbl : linesOf b = [] :: ls1 := by
        rcases h4 with ⟨q, q2⟩ | ⟨y, q, q2⟩
        · rw [q, q2]; rfl
        · rw [q, ← q2]; simp [linesOf]
      have := lines_app (b := b) hnl hbl
      rwa [List.append_nil] at this
    have := ih _ ls1 (f ++ [⟨(tokAt (z :: x)).1, (z :: x).take (tokAt (z :: x)).2, r, c⟩]) E hln (by rw [lastNone_append]; exact decide_eq_false hs) (by
      rw [hE]
      congr 1
      cases ls1.getLast? with
      | none =>
        show c + (z :: l1).length = (c + (tokAt (z :: x)).2) + ((z :: l1).drop (tokAt (z :: x)).2).length
        rw [List.length_drop, eT]
        omega
      | some m => rfl)
    rw [etake] at this ⊢
    rw [List.append_assoc, List.append_assoc] at this
    exact this
  | @bad r c z x hz1 hz2 hz3 hs =>
    intro l ls f E e hf hE
    obtain ⟨l1, ls1, b, h1, h2, h3, h4⟩ := first_line x
    have e' : (z :: l1) :: ls1 = l :: ls := by
      rw [← e]
      unfold linesOf
      rw [if_neg hz1, h1]
    injection e' with e1 e2
    subst e1 e2
    have hb : b = [] ∨ ∃ y, b = 10 :: y := by
      rcases h4 with ⟨q, _⟩ | ⟨y, q, _⟩
      · exact .inl q
      · exact .inr ⟨y, q⟩
    have eT : tokAt (z :: x) = tokAt (z :: l1) := by rw [h2]; exact tokAt_line hb
    have le : (tokAt (z :: l1)).2 ≤ (z :: l1).length := tokAt_le z l1
    have etake : (z :: x).take (tokAt (z :: x)).2 = (z :: l1).take (tokAt (z :: x)).2 := by
      rw [h2]
      show List.take _ (z :: l1 ++ b) = _
      rw [← h2, eT, List.take_append_of_le_length le]
    rw [row1_tok _ _ hz3 hz2, ← eT, if_pos hs, lastNone_append, decide_eq_true (show (tokAt (z :: x)).1 = sNone from hs), if_pos rfl, etake, hs]
theorem toks_scan {x : Cs} {o : List T} (h : Scan 0 0 x o) : toksOf x = o := by
  obtain ⟨l, ls, b, h1, h2, h3, h4⟩ := first_line x
  have := scan_lines h l ls [] (endOf x) h1 rfl (by
    have gl : ∀ (y : List Cs) (hy : y ≠ []), y = l :: ls → (⟨sEnd, [], y.length - 1, (y.getLast hy).length⟩ : T) = ⟨sEnd, [], 0 + ls.length, match ls.getLast? with | none => 0 + l.length | some m => m.length⟩ := by
      intro y hy e
      subst e
      congr 1
      · simp
      · cases hls : ls.getLast? with
        | none =>
          have : ls = [] := List.getLast?_eq_none_iff.mp hls
          subst this
          simp
        | some m =>
          have hne : ls ≠ [] := fun z => by rw [z] at hls; cases hls
          have e2 : ls.getLast hne = m := by
            have := List.getLast?_eq_some_getLast hne
            rw [hls] at this
            exact (Option.some.inj this).symm
          rw [List.getLast_cons hne, e2]
    exact gl _ (linesOf_ne x) h1)
  unfold toksOf
  rw [h1]
  exact this

/-! ### places -/
def stepP (p : Nat × Nat) (z : Nat) : Nat × Nat := if z = 10 then (p.1 + 1, 0) else (p.1, p.2 + 1)
def posn (x : Cs) : Nat × Nat := x.foldl stepP (0, 0)
theorem posn_app (a b : Cs) : posn (a ++ b) = b.foldl stepP (posn a) := List.foldl_append
theorem fold_lines : ∀ (x : Cs) (r c : Nat) (l : Cs) (ls : List Cs), linesOf x = l :: ls → x.foldl stepP (r, c) = (r + ls.length, match ls.getLast? with | none => c + l.length | some m => m.length) := by
  intro x
  induction x with
  | nil =>
    intro r c l ls e
    have e' : ([[]] : List Cs) = l :: ls := e
    injection e' with e1 e2
    subst e1 e2
    rfl
  | cons z x ih =>
    intro r c l ls e
    obtain ⟨l2, ls2, b, h1, _⟩ := first_line x
    by_cases hz : z = 10
    · subst hz
      have e' : [] :: linesOf x = l :: ls := by simpa [linesOf] using e
      injection e' with e1 e2
      subst e1
      rw [h1] at e2
      subst e2
      show x.foldl stepP (r + 1, 0) = _
      rw [ih (r + 1) 0 l2 ls2 h1]
      congr 1
      · simp only [List.length_cons]; omega
      · rw [List.getLast?_cons]
        cases ls2.getLast? with
        | none => simp
        | some m => rfl
    · have e' : (z :: l2) :: ls2 = l :: ls := by
        rw [← e]
        unfold linesOf
        rw [if_neg hz, h1]
      injection e' with e1 e2
      subst e1 e2
      have : stepP (r, c) z = (r, c + 1) := if_neg hz
      rw [List.foldl_cons, this, ih r (c + 1) l2 ls2 h1]
      congr 1
      cases ls2.getLast? with
      | none => simp only [List.length_cons]; omega
      | some m => rfl
theorem posn_row (x : Cs) : (posn x).1 = (linesOf x).length - 1 := by
  obtain ⟨l, ls, b, h1, _⟩ := first_line x
  unfold posn
  rw [fold_lines x 0 0 l ls h1, h1]
  simp
theorem posn_col (x : Cs) (m : Cs) (h : (linesOf x).getLast? = some m) : (posn x).2 = m.length := by
  obtain ⟨l, ls, b, h1, _⟩ := first_line x
  unfold posn
  rw [fold_lines x 0 0 l ls h1]
  rw [h1, List.getLast?_cons] at h
  cases hg : ls.getLast? with
  | none =>
    rw [hg] at h
    have := Option.some.inj h
    simp only [Option.getD_none] at this
    rw [this]
    simp
  | some y =>
    rw [hg] at h
    have := Option.some.inj h
    simp only [Option.getD_some] at this
    rw [this]
theorem posn_count (x : Cs) : (posn x).1 = x.count 10 := by
  have : ∀ (x : Cs) (p : Nat × Nat), (x.foldl stepP p).1 = p.1 + x.count 10 := by
    intro x
    induction x with
    | nil => intro p; simp
    | cons z x ih =>
      intro p
      rw [List.foldl_cons, ih, List.count_cons]
      unfold stepP
      by_cases hz : z = 10
      · rw [if_pos hz]; simp [hz]; omega
      · rw [if_neg hz]; simp [hz]
  have := this x (0, 0)
  simpa [posn] using this

/-! ### texts laid -/
def seps : List Cs := ([" ", "  ", "\n", "\n  ", "#a ( 9x\n", " # so\n\n"] : List String).map cs
def pieces : List (Cs × Cs) :=
  (["let", "in", "int", "module", "use", "true", "fst", "return"].map fun p => (sWord, cs p)) ++ (["a", "lets", "x_1", "in2", "abcdefghijkl", "a9"].map fun p => (sName, cs p)) ++
  (["A", "Go", "X9y", "ABCDEFGHIJKL"].map fun p => (sAsk, cs p)) ++ (["0", "7", "007", "123456789012345678901"].map fun p => (sFig, cs p)) ++
  (["(", ")", "[", "]", ",", ":", "=", "<", "+", "*", "|", "->", "::", "-"].map fun p => (sSign, cs p))
def nones : List Cs := (["abcdefghijklm", "aB", "A_b", "_a", "9a", "1_", "Abcdefghijklm", "$", ".", "?", ";", "@", "!", "{", ">", "/"] : List String).map cs
/-- nothing, or a blank, a line feed, a remark -/
def Bnd (x : Cs) : Prop := x = [] ∨ ∃ z y, x = z :: y ∧ (z = 10 ∨ z = 32 ∨ z = 35)
inductive Laid : Nat → Cs → List T → Prop
  | nil : Laid 0 [] []
  | more {n : Nat} {t sep s p : Cs} {L : List T} : Laid n t L → sep ∈ seps → (s, p) ∈ pieces → Laid (n + 1) (t ++ sep ++ p) (L ++ [⟨s, p, (posn (t ++ sep)).1, (posn (t ++ sep)).2⟩])
theorem scan_sep {sep : Cs} (h : sep ∈ seps) {r c : Nat} {x : Cs} {o : List T} (q : Scan (sep.foldl stepP (r, c)).1 (sep.foldl stepP (r, c)).2 x o) : Scan r c (sep ++ x) o := by
  have e : seps = [[32], [32, 32], [10], [10, 32, 32], [35, 97, 32, 40, 32, 57, 120, 10], [32, 35, 32, 115, 111, 10, 10]] := by decide
  rw [e] at h
  simp only [List.mem_cons, List.not_mem_nil, or_false] at h
  rcases h with rfl | rfl | rfl | rfl | rfl | rfl
  · exact .sp q
  · exact .sp (.sp q)
  · exact .nl q
  · exact .nl (.sp (.sp q))
  · exact .hash (m := [97, 32, 40, 32, 57, 120]) (x := 10 :: x) (by decide) (.inr ⟨x, rfl⟩) (.nl q)
  · exact .sp (.hash (m := [32, 115, 111]) (x := 10 :: 10 :: x) (by decide) (.inr ⟨_, rfl⟩) (.nl (.nl q)))
/-- a run: its own sort; a sign -/
def okPiece (s p : Cs) : Bool :=
  (decide (p ≠ []) && p.all isRun && decide (sortOf p = s) && decide (s ≠ sNone)) || (decide (s = sSign) && (decide (p = cs "->") || decide (p = cs "::") || (decide (p.length = 1) && singles.contains (p.headD 0) && !isRun (p.headD 0))))
theorem pieces_ok : ∀ sp ∈ pieces, okPiece sp.1 sp.2 = true := by decide +kernel
theorem pieces_head : ∀ sp ∈ pieces, (decide (sp.2 ≠ []) && decide (sp.2.headD 0 ≠ 10) && decide (sp.2.headD 0 ≠ 32) && decide (sp.2.headD 0 ≠ 35) && !sp.2.contains 10 && decide (sp.1 ≠ sNone)) = true := by decide +kernel
theorem bnd_not_run {z : Nat} (h : z = 10 ∨ z = 32 ∨ z = 35) : isRun z = false := by
  rcases h with rfl | rfl | rfl <;> decide
theorem run_bnd {p x : Cs} (hp : p.all isRun = true) (hx : Bnd x) : runOf (p ++ x) = p := by
  unfold runOf
  rw [List.takeWhile_append_of_pos (List.all_eq_true.mp hp)]
  rcases hx with rfl | ⟨z, y, rfl, hz⟩
  · simp
  · simp [List.takeWhile, bnd_not_run hz]
theorem two_bnd {a z : Nat} {y : Cs} (hz : z = 10 ∨ z = 32 ∨ z = 35) : isTwo (a :: z :: y) = false := by
  have q : cs "->" = [45, 62] := by decide
  have q2 : cs "::" = [58, 58] := by decide
  unfold isTwo
  rw [q, q2]
  rcases hz with rfl | rfl | rfl <;> simp
theorem two_one (a : Nat) : isTwo [a] = false := by
  have q : cs "->" = [45, 62] := by decide
  have q2 : cs "::" = [58, 58] := by decide
  unfold isTwo
  rw [q, q2]
  simp
theorem tokAt_piece {s p x : Cs} (h : okPiece s p = true) (hx : Bnd x) : tokAt (p ++ x) = (s, p.length) := by
  unfold okPiece at h
  simp only [Bool.or_eq_true, Bool.and_eq_true, decide_eq_true_eq] at h
  rcases h with ⟨⟨⟨h1, h2⟩, h3⟩, h4⟩ | ⟨rfl, (h1 | h1) | ⟨⟨h1, h2⟩, h3⟩⟩
  · unfold tokAt
    rw [run_bnd h2 hx, if_pos h1, h3]
  · subst h1
    rfl
  · subst h1
    rfl
  · obtain ⟨a, rfl⟩ : ∃ a, p = [a] := by
      cases p with
      | nil => simp at h1
      | cons a t =>
        cases t with
        | nil => exact ⟨a, rfl⟩
        | cons b t => simp at h1
    have ha : isRun a = false := by simpa using h3
    have hs : singles.contains a = true := h2
    have e1 : runOf (a :: x) = [] := by
      unfold runOf
      simp [List.takeWhile, ha]
    have e2 : isTwo (a :: x) = false := by
      rcases hx with rfl | ⟨z, y, rfl, hz⟩
      · exact two_one a
      · exact two_bnd hz
    show tokAt (a :: x) = (sSign, 1)
    unfold tokAt
    rw [e1, e2]
    show (if ([] : Cs) ≠ [] then _ else if false = true then _ else if singles.contains a = true then _ else _) = _
    rw [if_neg (by simp), if_neg Bool.false_ne_true, if_pos hs]
theorem scan_piece {s p : Cs} (h : (s, p) ∈ pieces) {r c : Nat} {x : Cs} {o : List T} (hx : Bnd x) (q : Scan r (c + p.length) x o) : Scan r c (p ++ x) (⟨s, p, r, c⟩ :: o) := by
  have e := tokAt_piece (pieces_ok _ h) hx
  have g := pieces_head _ h
  simp only [Bool.and_eq_true, decide_eq_true_eq] at g
  obtain ⟨⟨⟨⟨⟨g0, g1⟩, g2⟩, g3⟩, _⟩, g4⟩ := g
  obtain ⟨z, t, rfl⟩ : ∃ z t, p = z :: t := by
    cases p with
    | nil => exact absurd rfl g0
    | cons z t => exact ⟨z, t, rfl⟩
  have e' : tokAt (z :: (t ++ x)) = (s, (z :: t).length) := e
  have := Scan.tok (r := r) (c := c) (z := z) (x := t ++ x) (o := o) g1 g2 g3 (by rw [e']; exact g4) (by
    rw [e']
    show Scan r (c + (z :: t).length) ((z :: t ++ x).drop (z :: t).length) o
    rw [List.drop_left]
    exact q)
  rw [e'] at this
  have e2 : (z :: (t ++ x)).take (z :: t).length = z :: t := List.take_left (l₁ := z :: t) (l₂ := x)
  rw [e2] at this
  exact this
theorem fold_no {p : Cs} (h : 10 ∉ p) : ∀ r c : Nat, p.foldl stepP (r, c) = (r, c + p.length) := by
  induction p with
  | nil => intro r c; rfl
  | cons z t ih =>
    intro r c
    simp only [List.mem_cons, not_or] at h
    have e : stepP (r, c) z = (r, c + 1) := if_neg fun q => h.1 q.symm
    rw [List.foldl_cons, e, ih h.2]
    congr 1
    simp only [List.length_cons]
    omega
theorem piece_no {s p : Cs} (h : (s, p) ∈ pieces) : 10 ∉ p := by
  have g := pieces_head _ h
  simp only [Bool.and_eq_true] at g
  have := g.1.2
  simpa using this
theorem sep_bnd {sep : Cs} (h : sep ∈ seps) (x : Cs) : Bnd (sep ++ x) := by
  have e : seps = [[32], [32, 32], [10], [10, 32, 32], [35, 97, 32, 40, 32, 57, 120, 10], [32, 35, 32, 115, 111, 10, 10]] := by decide
  rw [e] at h
  simp only [List.mem_cons, List.not_mem_nil, or_false] at h
  rcases h with rfl | rfl | rfl | rfl | rfl | rfl <;> exact .inr ⟨_, _, rfl, by decide⟩
theorem laid_scan {n : Nat} {t : Cs} {L : List T} (h : Laid n t L) : ∀ (x : Cs) (o : List T), Bnd x → Scan (posn t).1 (posn t).2 x o → Scan 0 0 (t ++ x) (L ++ o) := by
  induction h with
  | nil => intro x o _ q; exact q
  | @more n t sep s p L hl hs hp ih =>
    intro x o hx q
    have e : posn (t ++ sep ++ p) = ((posn (t ++ sep)).1, (posn (t ++ sep)).2 + p.length) := by
      rw [posn_app]
      exact fold_no (piece_no hp) _ _
    rw [e] at q
    have q1 := scan_piece hp hx q
    have q2 : Scan (posn t).1 (posn t).2 (sep ++ (p ++ x)) (⟨s, p, (posn (t ++ sep)).1, (posn (t ++ sep)).2⟩ :: o) := by
      refine scan_sep hs ?_
      show Scan (sep.foldl stepP (posn t)).1 (sep.foldl stepP (posn t)).2 _ _
      rw [← posn_app]
      exact q1
    have := ih (sep ++ (p ++ x)) _ (sep_bnd hs _) q2
    simpa [List.append_assoc] using this
/-- what may stand behind a laid text -/
def tails : List Cs := (["", " ", "\n", "# 9a", "\n\n#"] : List String).map cs
theorem scan_tail {x : Cs} (h : x ∈ tails) (r c : Nat) : Bnd x ∧ ∃ r2 c2, Scan r c x [⟨sEnd, [], r2, c2⟩] := by
  have e : tails = [[], [32], [10], [35, 32, 57, 97], [10, 10, 35]] := by decide
  rw [e] at h
  simp only [List.mem_cons, List.not_mem_nil, or_false] at h
  rcases h with rfl | rfl | rfl | rfl | rfl
  · exact ⟨.inl rfl, _, _, .nil⟩
  · exact ⟨.inr ⟨_, _, rfl, by decide⟩, _, _, .sp .nil⟩
  · exact ⟨.inr ⟨_, _, rfl, by decide⟩, _, _, .nl .nil⟩
  · exact ⟨.inr ⟨_, _, rfl, by decide⟩, _, _, .hash (m := [32, 57, 97]) (x := []) (by decide) (.inl rfl) .nil⟩
  · exact ⟨.inr ⟨_, _, rfl, by decide⟩, _, _, .nl (.nl (.hash (m := []) (x := []) (by decide) (.inl rfl) .nil))⟩
theorem laid_tokens {n : Nat} {t x : Cs} {L : List T} (h : Laid n t L) (hx : x ∈ tails) : ∃ r c, toksOf (t ++ x) = L ++ [⟨sEnd, [], r, c⟩] := by
  obtain ⟨hb, r2, c2, q⟩ := scan_tail hx (posn t).1 (posn t).2
  exact ⟨r2, c2, toks_scan (laid_scan h x _ hb q)⟩
/-- behind a sign that begins none -/
def behind : List Cs := (["", " (", "\n9a"] : List String).map cs
theorem none_at : ∀ x ∈ nones, ∀ y ∈ behind, (decide ((tokAt (x ++ y)).1 = sNone) && decide (x ≠ []) && decide (x.headD 0 ≠ 10) && decide (x.headD 0 ≠ 32) && decide (x.headD 0 ≠ 35)) = true := by decide +kernel
theorem laid_none {n : Nat} {t x y : Cs} {L : List T} (h : Laid n t L) (hx : x ∈ nones) (hy : y ∈ behind) : ∃ m, toksOf (t ++ (32 :: (x ++ y))) = L ++ [⟨sNone, m, (posn (t ++ [32])).1, (posn (t ++ [32])).2⟩] := by
  have g := none_at x hx y hy
  simp only [Bool.and_eq_true, decide_eq_true_eq] at g
  obtain ⟨⟨⟨⟨g0, g1⟩, g2⟩, g3⟩, g4⟩ := g
  obtain ⟨z, u, rfl⟩ : ∃ z u, x = z :: u := by
    cases x with
    | nil => exact absurd rfl g1
    | cons z u => exact ⟨z, u, rfl⟩
  have q := Scan.bad (r := (posn t).1) (c := (posn t).2 + 1) (z := z) (x := u ++ y) g2 g3 g4 g0
  have e : posn (t ++ [32]) = ((posn t).1, (posn t).2 + 1) := by
    rw [posn_app]
    rfl
  refine ⟨(z :: (u ++ y)).take (tokAt (z :: (u ++ y))).2, ?_⟩
  rw [e]
  exact toks_scan (laid_scan h _ _ (.inr ⟨32, _, rfl, by decide⟩) (.sp q))
theorem laid_length {n : Nat} {t : Cs} {L : List T} (h : Laid n t L) : t.length ≤ 40 * n ∧ L.length = n := by
  have l1 : ∀ x ∈ seps, x.length ≤ 8 := by decide
  have l2 : ∀ x ∈ pieces, x.2.length ≤ 21 := by decide +kernel
  induction h with
  | nil => simp
  | @more n t sep s p L hl hs hp ih =>
    have a := l1 _ hs
    have b := l2 _ hp
    simp only at b
    rw [List.length_append, List.length_append, List.length_append]
    simp only [List.length_singleton]
    omega
end Tk

set_option maxHeartbeats 1000000
/-! Tk3: lines and counts as the text's own methods tell them. -/
namespace Tk
open Ak PySem TL PyProof.Rows PySem.StrLaws
open L2 (V)
theorem spl_lines : ∀ (x acc : Cs), spl [10] 0 acc x = match linesOf x with | [] => [acc] | l :: ls => (acc ++ l) :: ls
  | [], acc => by
    rw [spl_nil]
    simp [linesOf]
  | c :: r, acc => by
    by_cases hc : c = 10
    · subst hc
      rw [spl_hit (by rfl)]
      show acc :: spl [10] 0 [] r = _
      rw [spl_lines r []]
      have e : linesOf (10 :: r) = [] :: linesOf r := by simp [linesOf]
      rw [e]
      obtain ⟨l, ls, b, h1, _⟩ := first_line r
      rw [h1]
      simp
    · rw [spl_miss (pre_of_head [] r hc), spl_lines r]
      obtain ⟨l, ls, b, h1, _⟩ := first_line r
      have e : linesOf (c :: r) = (c :: l) :: ls := by
        unfold linesOf
        rw [if_neg hc, h1]
      rw [e, h1]
      simp
theorem spl_lines0 (x : Cs) : spl [10] 0 [] x = linesOf x := by
  rw [spl_lines]
  obtain ⟨l, ls, b, h1, _⟩ := first_line x
  rw [h1]
  rfl
theorem split_lines (x : Cs) : (Txt.split (tx x) (tx [10])).map V.str = (linesOf x).map fun y => V.str (tx y) := by
  have h := split_spl (tx x) (tx [10]) (by simp) (kind_ok (by simp))
  have e : tl (tx [10]) = [10] := rfl
  rw [e, show tl (tx x) = x from rfl, spl_lines0] at h
  rw [← h, List.map_map]
  apply List.map_congr_left
  intro z _
  show V.str z = V.str (tx (tl z))
  rw [tx_tl]
theorem parts_len (x : Str) (n : Nat) : ∀ (cuts : List Nat) (a : Nat), (partsFrom x n a cuts).length = cuts.length + 1
  | [], a => rfl
  | c :: r, a => by
    show (partsFrom x n (c + n) r).length + 1 = _
    rw [parts_len x n r]
    rfl
theorem count_lines (x : Cs) : Txt.count (tx x) (tx [10]) = (((posn x).1 : Nat) : Int) := by
  obtain ⟨f, g, hn⟩ := occ_tight (tx x) (tx [10]) (by decide)
  have key := parts_spl (x := tx x) (y := tx [10]) (by simp) _ 0 f (Nat.zero_le _) g hn
  rw [List.drop_zero, show tl (tx [10]) = [10] from rfl, show tl (tx x) = x from rfl, spl_lines0] at key
  have l := congrArg List.length key
  rw [List.length_map, parts_len] at l
  rw [posn_row, ← l]
  rfl
theorem last_col (x : Cs) : (linesOf x)[(linesOf x).length - 1]? = some ((linesOf x).getLast (linesOf_ne x)) := by
  rw [← List.getLast?_eq_getElem?, List.getLast?_eq_some_getLast (linesOf_ne x)]
theorem posn_col' (x : Cs) : (posn x).2 = ((linesOf x).getLast (linesOf_ne x)).length := posn_col x _ (List.getLast?_eq_some_getLast (linesOf_ne x))
theorem endOf_eq (x : Cs) : endOf x = ⟨sEnd, [], (posn x).1, (posn x).2⟩ := by
  unfold endOf
  rw [posn_row, posn_col']
theorem lines_len (x : Cs) : (linesOf x).length ≤ x.length + 1 ∧ ∀ l ∈ linesOf x, l.length ≤ x.length := by
  induction x with
  | nil => simp [linesOf]
  | cons c r ih =>
    obtain ⟨l, ls, b, h1, _⟩ := first_line r
    rw [h1] at ih
    by_cases hc : c = 10
    · subst hc
      have e : linesOf (10 :: r) = [] :: l :: ls := by simp [linesOf, h1]
      rw [e]
      refine ⟨by simp only [List.length_cons] at *; omega, fun y hy => ?_⟩
      rcases List.mem_cons.mp hy with rfl | hy
      · simp
      · have := ih.2 y hy
        simp only [List.length_cons]
        omega
    · have e : linesOf (c :: r) = (c :: l) :: ls := by
        unfold linesOf
        rw [if_neg hc, h1]
      rw [e]
      refine ⟨by simp only [List.length_cons] at *; omega, fun y hy => ?_⟩
      rcases List.mem_cons.mp hy with rfl | hy
      · have := ih.2 l List.mem_cons_self
        simp only [List.length_cons]
        omega
      · have := ih.2 y (List.mem_cons_of_mem _ hy)
        simp only [List.length_cons]
        omega
theorem lines_mem {x : Cs} {c : Nat} : ∀ l ∈ linesOf x, c ∈ l → c ∈ x := by
  induction x with
  | nil => intro l hl hc; simp [linesOf] at hl; subst hl; exact hc
  | cons d r ih =>
    intro l hl hc
    obtain ⟨l1, ls, b, h1, _⟩ := first_line r
    by_cases hd : d = 10
    · subst hd
      have e : linesOf (10 :: r) = [] :: linesOf r := by simp [linesOf]
      rw [e] at hl
      rcases List.mem_cons.mp hl with rfl | hl
      · simp at hc
      · exact List.mem_cons_of_mem _ (ih l hl hc)
    · have e : linesOf (d :: r) = (d :: l1) :: ls := by
        unfold linesOf
        rw [if_neg hd, h1]
      rw [e] at hl
      rcases List.mem_cons.mp hl with rfl | hl
      · rcases List.mem_cons.mp hc with rfl | hc
        · exact List.mem_cons_self
        · exact List.mem_cons_of_mem _ (ih l1 (by rw [h1]; exact List.mem_cons_self) hc)
      · exact List.mem_cons_of_mem _ (ih l (by rw [h1]; exact List.mem_cons_of_mem _ hl) hc)
end Tk

set_option maxHeartbeats 4000000
/-! W15: the text of the law k15 by places. -/
namespace K15
open PySem PySem.Spec PyProof.Rows L2 Ak
def topS (i : Nat) : Stmt := PySem.Challenge.pw_asktongue_k15_tokens.main.body.getD i (.Pass ⟨0, 0, 0, 0⟩)
abbrev s_has_signs : Stmt := topS 10
abbrev s_is_name : Stmt := topS 11
abbrev s_is_ask_name : Stmt := topS 12
abbrev s_sort_of_run : Stmt := topS 27
abbrev s_run_from : Stmt := topS 28
abbrev s_next_in : Stmt := topS 29
abbrev s_row_tokens : Stmt := topS 30
abbrev s_split_of : Stmt := topS 31
abbrev s_want_text : Stmt := topS 32
abbrev s_tokens : Stmt := topS 33
abbrev s__law_pot : Stmt := topS 35
abbrev s__law_draw : Stmt := topS 36
abbrev s__law_pick : Stmt := topS 37
abbrev s__law_sort : Stmt := topS 39
abbrev s__law_is_run_sign : Stmt := topS 40
abbrev s__law_tokens : Stmt := topS 41
abbrev s__law_pieces : Stmt := topS 42
abbrev s__law_nones : Stmt := topS 43
abbrev s__law_laid : Stmt := topS 44
abbrev s__law_refused : Stmt := topS 45
abbrev s__law_string_right : Stmt := topS 46
abbrev s__law_right : Stmt := topS 47
abbrev s_law : Stmt := topS 48
abbrev s_TongueError_init : Stmt := inClass (topS 1) 0
abbrev s_BadText_init : Stmt := inClass (topS 3) 0
abbrev nm_has_signs : List Str := ["value", "first", "others", "sign"]
theorem sc_has_signs : FnScope nm_has_signs ["value", "first", "others"] (defScope s_has_signs) := ⟨rfl, rfl, rfl, by decide +kernel, rfl, by decide +kernel, by decide +kernel⟩
abbrev nm_is_name : List Str := ["value"]
theorem sc_is_name : FnScope nm_is_name ["value"] (defScope s_is_name) := ⟨rfl, rfl, rfl, by decide +kernel, rfl, by decide +kernel, by decide +kernel⟩
abbrev nm_is_ask_name : List Str := ["value"]
theorem sc_is_ask_name : FnScope nm_is_ask_name ["value"] (defScope s_is_ask_name) := ⟨rfl, rfl, rfl, by decide +kernel, rfl, by decide +kernel, by decide +kernel⟩
abbrev nm_sort_of_run : List Str := ["run", "sign"]
theorem sc_sort_of_run : FnScope nm_sort_of_run ["run"] (defScope s_sort_of_run) := ⟨rfl, rfl, rfl, by decide +kernel, rfl, by decide +kernel, by decide +kernel⟩
abbrev nm_run_from : List Str := ["line", "column", "late"]
theorem sc_run_from : FnScope nm_run_from ["line", "column"] (defScope s_run_from) := ⟨rfl, rfl, rfl, by decide +kernel, rfl, by decide +kernel, by decide +kernel⟩
abbrev nm_next_in : List Str := ["line", "column", "run"]
theorem sc_next_in : FnScope nm_next_in ["line", "column"] (defScope s_next_in) := ⟨rfl, rfl, rfl, by decide +kernel, rfl, by decide +kernel, by decide +kernel⟩
abbrev nm_row_tokens : List Str := ["row", "line", "found", "column", "sort", "text"]
theorem sc_row_tokens : FnScope nm_row_tokens ["row", "line"] (defScope s_row_tokens) := ⟨rfl, rfl, rfl, by decide +kernel, rfl, by decide +kernel, by decide +kernel⟩
abbrev nm_split_of : List Str := ["text", "lines", "found", "row", "line"]
theorem sc_split_of : FnScope nm_split_of ["text"] (defScope s_split_of) := ⟨rfl, rfl, rfl, by decide +kernel, rfl, by decide +kernel, by decide +kernel⟩
abbrev nm_want_text : List Str := ["value"]
theorem sc_want_text : FnScope nm_want_text ["value"] (defScope s_want_text) := ⟨rfl, rfl, rfl, by decide +kernel, rfl, by decide +kernel, by decide +kernel⟩
abbrev nm_tokens : List Str := ["text", "found"]
theorem sc_tokens : FnScope nm_tokens ["text"] (defScope s_tokens) := ⟨rfl, rfl, rfl, by decide +kernel, rfl, by decide +kernel, by decide +kernel⟩
abbrev nm__law_pot : List Str := ["script", "cells", "cell"]
theorem sc__law_pot : FnScope nm__law_pot ["script"] (defScope s__law_pot) := ⟨rfl, rfl, rfl, by decide +kernel, rfl, by decide +kernel, by decide +kernel⟩
abbrev nm__law_draw : List Str := ["pot", "many", "digit"]
theorem sc__law_draw : FnScope nm__law_draw ["pot", "many"] (defScope s__law_draw) := ⟨rfl, rfl, rfl, by decide +kernel, rfl, by decide +kernel, by decide +kernel⟩
abbrev nm__law_pick : List Str := ["pot", "some"]
theorem sc__law_pick : FnScope nm__law_pick ["pot", "some"] (defScope s__law_pick) := ⟨rfl, rfl, rfl, by decide +kernel, rfl, by decide +kernel, by decide +kernel⟩
abbrev nm__law_sort : List Str := ["run", "words", "sign"]
theorem sc__law_sort : FnScope nm__law_sort ["run"] (defScope s__law_sort) := ⟨rfl, rfl, rfl, by decide +kernel, rfl, by decide +kernel, by decide +kernel⟩
abbrev nm__law_is_run_sign : List Str := ["sign"]
theorem sc__law_is_run_sign : FnScope nm__law_is_run_sign ["sign"] (defScope s__law_is_run_sign) := ⟨rfl, rfl, rfl, by decide +kernel, rfl, by decide +kernel, by decide +kernel⟩
abbrev nm__law_tokens : List Str := ["text", "found", "lines", "row", "line", "column", "late", "sign"]
theorem sc__law_tokens : FnScope nm__law_tokens ["text"] (defScope s__law_tokens) := ⟨rfl, rfl, rfl, by decide +kernel, rfl, by decide +kernel, by decide +kernel⟩
abbrev nm__law_pieces : List Str := ["found", "one"]
theorem sc__law_pieces : FnScope nm__law_pieces [] (defScope s__law_pieces) := ⟨rfl, rfl, rfl, by decide +kernel, rfl, by decide +kernel, by decide +kernel⟩
abbrev nm__law_nones : List Str := []
theorem sc__law_nones : FnScope nm__law_nones [] (defScope s__law_nones) := ⟨rfl, rfl, rfl, by decide +kernel, rfl, by decide +kernel, by decide +kernel⟩
abbrev nm__law_laid : List Str := ["pot", "many", "text", "found", "turn", "sort", "piece"]
theorem sc__law_laid : FnScope nm__law_laid ["pot", "many"] (defScope s__law_laid) := ⟨rfl, rfl, rfl, by decide +kernel, rfl, by decide +kernel, by decide +kernel⟩
abbrev nm__law_refused : List Str := ["text", "told", "e"]
theorem sc__law_refused : FnScope nm__law_refused ["text"] (defScope s__law_refused) := ⟨rfl, rfl, rfl, by decide +kernel, rfl, by decide +kernel, by decide +kernel⟩
abbrev nm__law_string_right : List Str := ["text", "due"]
theorem sc__law_string_right : FnScope nm__law_string_right ["text"] (defScope s__law_string_right) := ⟨rfl, rfl, rfl, by decide +kernel, rfl, by decide +kernel, by decide +kernel⟩
abbrev nm__law_right : List Str := ["pot", "text", "due", "piece", "some", "strings", "many", "one", "turn"]
theorem sc__law_right : FnScope nm__law_right ["pot"] (defScope s__law_right) := ⟨rfl, rfl, rfl, by decide +kernel, rfl, by decide +kernel, by decide +kernel⟩
abbrev nm_law : List Str := ["script"]
theorem sc_law : FnScope nm_law ["script"] (defScope s_law) := ⟨rfl, rfl, rfl, by decide +kernel, rfl, by decide +kernel, by decide +kernel⟩
structure DefAt (K : PySem.W.Frag) (mg : Str → Option Value) (x : Str) (st : Stmt) (f : Addr) (fd : FuncData) : Prop where
  g : mg x = some (.ref f)
  F : Fun K x x st f fd
/-- what the top has left -/
structure Tx (K : PySem.W.Frag) (mg : Str → Option Value) where
  f_has_signs : Addr
  fd_has_signs : FuncData
  d_has_signs : DefAt K mg "has_signs" s_has_signs f_has_signs fd_has_signs
  f_is_name : Addr
  fd_is_name : FuncData
  d_is_name : DefAt K mg "is_name" s_is_name f_is_name fd_is_name
  f_is_ask_name : Addr
  fd_is_ask_name : FuncData
  d_is_ask_name : DefAt K mg "is_ask_name" s_is_ask_name f_is_ask_name fd_is_ask_name
  f_sort_of_run : Addr
  fd_sort_of_run : FuncData
  d_sort_of_run : DefAt K mg "sort_of_run" s_sort_of_run f_sort_of_run fd_sort_of_run
  f_run_from : Addr
  fd_run_from : FuncData
  d_run_from : DefAt K mg "run_from" s_run_from f_run_from fd_run_from
  f_next_in : Addr
  fd_next_in : FuncData
  d_next_in : DefAt K mg "next_in" s_next_in f_next_in fd_next_in
  f_row_tokens : Addr
  fd_row_tokens : FuncData
  d_row_tokens : DefAt K mg "row_tokens" s_row_tokens f_row_tokens fd_row_tokens
  f_split_of : Addr
  fd_split_of : FuncData
  d_split_of : DefAt K mg "split_of" s_split_of f_split_of fd_split_of
  f_want_text : Addr
  fd_want_text : FuncData
  d_want_text : DefAt K mg "want_text" s_want_text f_want_text fd_want_text
  f_tokens : Addr
  fd_tokens : FuncData
  d_tokens : DefAt K mg "tokens" s_tokens f_tokens fd_tokens
  f__law_pot : Addr
  fd__law_pot : FuncData
  d__law_pot : DefAt K mg "_law_pot" s__law_pot f__law_pot fd__law_pot
  f__law_draw : Addr
  fd__law_draw : FuncData
  d__law_draw : DefAt K mg "_law_draw" s__law_draw f__law_draw fd__law_draw
  f__law_pick : Addr
  fd__law_pick : FuncData
  d__law_pick : DefAt K mg "_law_pick" s__law_pick f__law_pick fd__law_pick
  f__law_sort : Addr
  fd__law_sort : FuncData
  d__law_sort : DefAt K mg "_law_sort" s__law_sort f__law_sort fd__law_sort
  f__law_is_run_sign : Addr
  fd__law_is_run_sign : FuncData
  d__law_is_run_sign : DefAt K mg "_law_is_run_sign" s__law_is_run_sign f__law_is_run_sign fd__law_is_run_sign
  f__law_tokens : Addr
  fd__law_tokens : FuncData
  d__law_tokens : DefAt K mg "_law_tokens" s__law_tokens f__law_tokens fd__law_tokens
  f__law_pieces : Addr
  fd__law_pieces : FuncData
  d__law_pieces : DefAt K mg "_law_pieces" s__law_pieces f__law_pieces fd__law_pieces
  f__law_nones : Addr
  fd__law_nones : FuncData
  d__law_nones : DefAt K mg "_law_nones" s__law_nones f__law_nones fd__law_nones
  f__law_laid : Addr
  fd__law_laid : FuncData
  d__law_laid : DefAt K mg "_law_laid" s__law_laid f__law_laid fd__law_laid
  f__law_refused : Addr
  fd__law_refused : FuncData
  d__law_refused : DefAt K mg "_law_refused" s__law_refused f__law_refused fd__law_refused
  f__law_string_right : Addr
  fd__law_string_right : FuncData
  d__law_string_right : DefAt K mg "_law_string_right" s__law_string_right f__law_string_right fd__law_string_right
  f__law_right : Addr
  fd__law_right : FuncData
  d__law_right : DefAt K mg "_law_right" s__law_right f__law_right fd__law_right
  f_law : Addr
  fd_law : FuncData
  d_law : DefAt K mg "law" s_law f_law fd_law
  n_abs : mg "abs" = none
  n_all : mg "all" = none
  n_divmod : mg "divmod" = none
  n_enumerate : mg "enumerate" = none
  n_int : mg "int" = none
  n_isinstance : mg "isinstance" = none
  n_len : mg "len" = none
  n_range : mg "range" = none
  n_repr : mg "repr" = none
  n_str : mg "str" = none
  n_sum : mg "sum" = none
  c_MOST_SIGNS_words : ∃ u, mg "MOST_SIGNS_words" = some u ∧ RelV (.int 12) u
  c_SMALL : ∃ u, mg "SMALL" = some u ∧ RelV (.str (tx (cs "abcdefghijklmnopqrstuvwxyz"))) u
  c_GREAT : ∃ u, mg "GREAT" = some u ∧ RelV (.str (tx (cs "ABCDEFGHIJKLMNOPQRSTUVWXYZ"))) u
  c_FIGURES_words : ∃ u, mg "FIGURES_words" = some u ∧ RelV (.str (tx (cs "0123456789"))) u
  a_RESERVED : Addr
  c_RESERVED : ∃ u, mg "RESERVED" = some u ∧ RelV (.ref a_RESERVED) u
  t_RESERVED : ∀ H : Hp, SqT K H a_RESERVED [.str (tx (cs "ask")), .str (tx (cs "do")), .str (tx (cs "else")), .str (tx (cs "end")), .str (tx (cs "false")), .str (tx (cs "fn")), .str (tx (cs "fst")), .str (tx (cs "handle")), .str (tx (cs "if")), .str (tx (cs "in")), .str (tx (cs "let")), .str (tx (cs "match")), .str (tx (cs "module")), .str (tx (cs "rec")), .str (tx (cs "return")), .str (tx (cs "snd")), .str (tx (cs "then")), .str (tx (cs "true")), .str (tx (cs "use")), .str (tx (cs "with")), .str (tx (cs "int")), .str (tx (cs "bool")), .str (tx (cs "unit"))]
  c_MOST_SIGNS_tokens : ∃ u, mg "MOST_SIGNS_tokens" = some u ∧ RelV (.int 6000) u
  c_REMARK : ∃ u, mg "REMARK" = some u ∧ RelV (.str (tx (cs "#"))) u
  c_DIGITS : ∃ u, mg "DIGITS" = some u ∧ RelV (.str (tx (cs "0123456789"))) u
  c_LETTERS : ∃ u, mg "LETTERS" = some u ∧ RelV (.str (tx (cs "abcdefghijklmnopqrstuvwxyzABCDEFGHIJKLMNOPQRSTUVWXYZ"))) u
  a_DOUBLES : Addr
  c_DOUBLES : ∃ u, mg "DOUBLES" = some u ∧ RelV (.ref a_DOUBLES) u
  t_DOUBLES : ∀ H : Hp, SqT K H a_DOUBLES [.str (tx (cs "->")), .str (tx (cs "::"))]
  c_SINGLES : ∃ u, mg "SINGLES" = some u ∧ RelV (.str (tx (cs "()[],:=<+-*|"))) u
  c_FIGURES_tokens : ∃ u, mg "FIGURES_tokens" = some u ∧ RelV (.str (tx (cs "figures"))) u
  c_NAME : ∃ u, mg "NAME" = some u ∧ RelV (.str (tx (cs "name"))) u
  c_ASK : ∃ u, mg "ASK" = some u ∧ RelV (.str (tx (cs "ask"))) u
  c_WORD : ∃ u, mg "WORD" = some u ∧ RelV (.str (tx (cs "word"))) u
  c_SIGN : ∃ u, mg "SIGN" = some u ∧ RelV (.str (tx (cs "sign"))) u
  c_END : ∃ u, mg "END" = some u ∧ RelV (.str (tx (cs "end"))) u
  c_NONE : ∃ u, mg "NONE" = some u ∧ RelV (.str (tx (cs "none"))) u

end K15

set_option maxHeartbeats 4000000
/-! W15a: the package's defs, one after another. -/
namespace K15
open PySem PySem.Spec PyProof.Rows L2 TL Ak
section
variable {P : Program} {w : World} {K : PySem.W.Frag} {mg : Str → Option Value} {base : Heap}

local macro_rules | `(tactic| tm_at "rd1") => `(tactic| with_reducible first
  | refine r_seq ?_ | refine r_ifS ?_ | refine r_ret ?_ | refine r_asg ?_ | refine r_next ?_ | refine r_drop ?_ | refine r_par ?_ | refine r_brk ?_ | refine r_cont ?_
  | refine r_op ?_ | refine r_c ?_ | refine r_cb ?_ | refine r_cons ?_ | refine r_nil ?_ | refine r_un ?_ | refine r_tB ?_ | refine r_test ?_ | refine r_not ?_ | refine r_and ?_ | refine r_or ?_ | refine r_andV ?_ | refine r_orV ?_ | refine r_notV ?_ | refine r_if ?_ | refine r_chain ?_
  | refine r_tup ?_ | refine r_lst ?_ | refine r_sl ?_ | refine r_part ?_ | refine r_nopart ?_ | refine r_call ?_ | refine r_callK ?_ | refine r_bm ?_ | refine r_bm0 ?_ | refine r_m1 ?_ | refine r_m0 ?_ | refine r_isN ?_ | refine r_notN ?_
  | refine r_gcons ?_ | refine r_gnil ?_ | refine r_gsub ?_ | refine r_name ?_ | refine r_ilist ?_ | refine r_itup ?_ | refine r_istr ?_ | refine r_irng1 ?_ | refine r_ienum ?_ | refine r_mko ?_ | refine r_yes ?_ | refine r_lc ?_ | refine r_for ?_ | refine turn_i ?_
  | refine r_bl ?_ | refine r_int ?_ | refine r_two ?_ | refine r_str ?_ | refine r_two1 ?_
  | refine b_t ?_ | refine b_f ?_ | refine b_nt ?_ | refine b_nf ?_ | refine q_isi_str ?_ | refine q_u ?_ | refine q_i0 ?_ | refine q_ipI ?_ | refine q_add_int ?_ | refine q_eq_int ?_ | refine q_ne_int ?_ | refine q_eq_tx ?_ | refine q_ne_tx ?_ | refine q_in_sg ?_ | refine q_ni_sg ?_)
local macro_rules | `(tactic| tm_at "rd2") => `(tactic| first
  | tm_at "rd1" | refine r_var rfl ?_ | refine r_aug rfl ?_ 
  | refine And.intro (small_n (by simp)) ?_ | tm_at "rdl")
local macro_rules | `(tactic| tm_at "rdl") => `(tactic| first | (with_reducible refine q_len_tx (by assumption) ?_) | (with_reducible refine q_len_tx (by omega) ?_))
local macro_rules | `(tactic| tm_at "rd") => `(tactic| repeat tm_at "rd2")

/-! ### signs of the top's texts -/
theorem mem_small (c : Nat) : decide (c ∈ cs "abcdefghijklmnopqrstuvwxyz") = Tk.isSml c := by
  have e : cs "abcdefghijklmnopqrstuvwxyz" = List.range' 97 26 := by decide
  rw [e, Bool.eq_iff_iff, decide_eq_true_eq, List.mem_range'_1]
  simp only [Tk.isSml, Bool.and_eq_true, decide_eq_true_eq]
  omega
theorem mem_great (c : Nat) : decide (c ∈ cs "ABCDEFGHIJKLMNOPQRSTUVWXYZ") = Tk.isGrt c := by
  have e : cs "ABCDEFGHIJKLMNOPQRSTUVWXYZ" = List.range' 65 26 := by decide
  rw [e, Bool.eq_iff_iff, decide_eq_true_eq, List.mem_range'_1]
  simp only [Tk.isGrt, Bool.and_eq_true, decide_eq_true_eq]
  omega
theorem mem_digits (c : Nat) : decide (c ∈ cs "0123456789") = Tk.isDig c := by
  have e : cs "0123456789" = List.range' 48 10 := by decide
  rw [e, Bool.eq_iff_iff, decide_eq_true_eq, List.mem_range'_1]
  simp only [Tk.isDig, Bool.and_eq_true, decide_eq_true_eq]
  omega
theorem mem_letters (c : Nat) : decide (c ∈ cs "abcdefghijklmnopqrstuvwxyzABCDEFGHIJKLMNOPQRSTUVWXYZ") = (Tk.isSml c || Tk.isGrt c) := by
  have e : cs "abcdefghijklmnopqrstuvwxyzABCDEFGHIJKLMNOPQRSTUVWXYZ" = List.range' 97 26 ++ List.range' 65 26 := by decide
  rw [e, Bool.eq_iff_iff, decide_eq_true_eq, List.mem_append, List.mem_range'_1, List.mem_range'_1]
  simp only [Tk.isSml, Tk.isGrt, Bool.or_eq_true, Bool.and_eq_true, decide_eq_true_eq]
  omega

/-! ### has_signs -/
def hasS (z a b : List Nat) : Bool := (decide (1 ≤ z.length) && decide (z.length ≤ 12)) && (decide (z.headD 0 ∈ a) && z.all fun c => decide (c ∈ b))
def sp_has_signs : Sp := fun vs H Q _ => ∃ z a b : List Nat, vs = [.str (tx z), .str (tx a), .str (tx b)] ∧ z.length ≤ 100000 ∧ ∀ H', Same H H' → Q (.bl (hasS z a b)) H'
theorem ok_has_signs (T : Tx K mg) : FnOk P w K mg base CX0 1 T.f_has_signs T.fd_has_signs ["value", "first", "others"] sp_has_signs := by
  refine T.d_has_signs.F.ok sc_has_signs (fun vs H Q E h => ?_) (fun cdv A outer s H vs Q E hr h => ?_)
  · obtain ⟨z, a, b, rfl, _⟩ := h
    rfl
  · obtain ⟨z, a, b, rfl, hz, k⟩ := h
    have hu := hu_of hr
    have hu64 := hr.units
    refine ⟨_, (pss_cons (ps_if (PW.pt (pw_or (pt_not (pt_val (pe_callB (caIsi (K := K) rfl) (by rfl) T.n_isinstance (by decide +kernel) (pa_cons (pv 0) (pa_cons (pe_bltn (v := .ty "str") (u := .type "str") (by rfl) T.n_str (by decide +kernel) rfl) pa_nil))))) (pw_or1 (pt_not (pt_chain op_le op_le pe_int (pe_callB (caLen (K := K) rfl) (by rfl) T.n_len (by decide +kernel) (pa_cons (pv 0) pa_nil)) (pe_const T.c_MOST_SIGNS_words (by rfl))))))) (pss_one (ps_ret pe_bl)) pss_nil)
      (pss_one (ps_ret (pe_and (pe_cmpR (opIn (K := K) rfl) (pe_ix (ixAny (K := K) rfl) (pv 0) pe_int (fun _ _ => rfl)) (pv 1) (by rfl)) (pe_one (pe_callB (caAll (K := K) rfl rfl) (by rfl) T.n_all (by decide +kernel) (pa_cons (pe_lc (own := [("sign", 3)]) (g := gName 3) rfl sc_has_signs.nd (pi_str (pv 0)) (blkOk_by (own := [("sign", 3)]) (N := nm_has_signs) (sc := defScope s_has_signs) (by decide +kernel)) (fun _ _ _ _ _ => pg_name (i := 3) sc_has_signs.nd rfl (Or.inl rfl)) (fun _ _ _ _ _ => pts_nil) (fun _ _ _ _ _ => (pe_cmpR (opIn (K := K) rfl) (pv 3) (pv 2) (by rfl)))) pa_nil))))))), ?_⟩
    tm_at "rd"
    refine bd (fun h1 => ?_) (fun h1 => ?_)
    · tm_at "rd"
      refine bnd (fun h2 => ?_) (fun h2 => ?_)
      · tm_at "rd"
        have e : hasS z a b = false := by
          unfold hasS
          rw [decide_eq_false (show ¬ z.length ≤ 12 by omega)]
          simp
        rw [← e]
        exact k _ (Same.refl _)
      · tm_at "rd"
        cases z with
        | nil => simp at h1
        | cons c t =>
          refine q_ix_tx (j := 0) (c := c) hz rfl ?_
          tm_at "rd"
          have e : hasS (c :: t) a b = (decide (c ∈ a) && (c :: t).all fun c => decide (c ∈ b)) := by
            unfold hasS
            rw [decide_eq_true (show 1 ≤ (c :: t).length by omega), decide_eq_true (show (c :: t).length ≤ 12 by omega)]
            rfl
          rw [e] at k
          refine bd (fun h3 => ?_) (fun h3 => ?_)
          · rw [decide_eq_true h3] at k
            tm_at "rd"
            intro D hD
            refine lc_txt (fun _ => true) (fun x => .bl (decide (x ∈ b))) (by rw [len_tx]; exact Nat.lt_of_le_of_lt hz (by decide)) (fun x _ H2 Q2 s2 q => q) (fun x _ _ H2 Q2 s2 q => ?_) hD ?_
            · tm_at "rd"
              exact q
            · refine ⟨D, (c :: t).map fun x => decide (x ∈ b), rfl, SqL.of (by rw [upd_same, filt_all, List.map_map]; rfl), ?_⟩
              have e2 : ((c :: t).map fun x => decide (x ∈ b)).all id = (c :: t).all fun c => decide (c ∈ b) := by rw [List.all_map]; rfl
              rw [e2]
              exact k _ (same_new hD)
          · rw [decide_eq_false h3] at k
            exact k _ (Same.refl _)
    · tm_at "rd"
      have e : hasS z a b = false := by
        unfold hasS
        rw [decide_eq_false (show ¬ 1 ≤ z.length by omega)]
        simp
      rw [← e]
      exact k _ (Same.refl _)

/-! ### is_name, is_ask_name -/
theorem hasS_name (z : List Nat) : hasS z (cs "abcdefghijklmnopqrstuvwxyz") (cs "abcdefghijklmnopqrstuvwxyz" ++ cs "0123456789" ++ cs "_") = ((decide (1 ≤ z.length) && decide (z.length ≤ 12)) && (Tk.isSml (z.headD 0) && z.all fun c => Tk.isSml c || Tk.isDig c || (c == 95))) := by
  unfold hasS
  rw [mem_small]
  congr 2
  congr 1
  funext c
  have e : cs "_" = [95] := by decide
  rw [e, Bool.eq_iff_iff, decide_eq_true_eq, List.mem_append, List.mem_append, List.mem_singleton, Bool.or_eq_true, Bool.or_eq_true, ← mem_small, ← mem_digits, decide_eq_true_eq, decide_eq_true_eq, beq_iff_eq]
theorem hasS_ask (z : List Nat) : hasS z (cs "ABCDEFGHIJKLMNOPQRSTUVWXYZ") (cs "abcdefghijklmnopqrstuvwxyz" ++ cs "ABCDEFGHIJKLMNOPQRSTUVWXYZ" ++ cs "0123456789") = Tk.isAskT z := by
  unfold hasS Tk.isAskT
  rw [mem_great]
  congr 2
  congr 1
  funext c
  rw [Bool.eq_iff_iff, decide_eq_true_eq, List.mem_append, List.mem_append, Bool.or_eq_true, Bool.or_eq_true, ← mem_small, ← mem_great, ← mem_digits, decide_eq_true_eq, decide_eq_true_eq, decide_eq_true_eq]
theorem res_eq : (["ask", "do", "else", "end", "false", "fn", "fst", "handle", "if", "in", "let", "match", "module", "rec", "return", "snd", "then", "true", "use", "with", "int", "bool", "unit"] : List String).map (fun s => V.str (tx (cs s))) = Tk.reserved.map fun y => V.str (tx y) := rfl
def sp_is_name : Sp := fun vs H Q _ => ∃ z : List Nat, vs = [.str (tx z)] ∧ z.length ≤ 100000 ∧ ∀ H', Same H H' → Q (.bl (Tk.isNameT z)) H'
theorem ok_is_name (T : Tx K mg) : FnOk P w K mg base CX0 2 T.f_is_name T.fd_is_name ["value"] sp_is_name := by
  have G_has_signs := ok_has_signs (P := P) (w := w) (base := base) T
  have b_has_signs := T.d_has_signs.F.binds (ps := ["value", "first", "others"]) fun _ _ _ _ _ _ us hl => match us, hl with | [_, _, _], _ => rfl
  refine T.d_is_name.F.ok sc_is_name (fun vs H Q E h => ?_) (fun cdv A outer s H vs Q E hr h => ?_)
  · obtain ⟨z, rfl, _⟩ := h
    rfl
  · obtain ⟨z, rfl, hz, k⟩ := h
    have hu := hu_of hr
    have hu64 := hr.units
    refine ⟨_, (pss_one (ps_ret (pe_and (pe_call G_has_signs (hr.mono (by decide)) rfl T.d_has_signs.g T.d_has_signs.F.kp b_has_signs .nil pass0 (pa_cons (pv 0) (pa_cons (pe_const T.c_SMALL (by rfl)) (pa_cons (pe_op (opAdd (K := K) rfl) (pe_op (opAdd (K := K) rfl) (pe_const T.c_SMALL (by rfl)) (pe_const T.c_FIGURES_words (by rfl))) (pe_lit "_")) pa_nil)))) (pe_one (pe_cmpR (opNi (K := K) rfl) (pv 0) (pe_const T.c_RESERVED (by rfl)) (by rfl)))))), ?_⟩
    tm_at "rd"
    refine q_add_tx (by decide) ?_
    tm_at "rd"
    refine q_add_tx (by decide) ?_
    tm_at "rd"
    refine ⟨z, _, _, rfl, hz, fun H1 s1 => ⟨_, rfl, ?_⟩⟩
    rw [hasS_name]
    refine biff (fun h1 => ?_) (fun h1 => ?_)
    · tm_at "rd"
      refine q_ni_txs (ys := Tk.reserved) (.inr (T.t_RESERVED H1)) ?_
      have e : Tk.isNameT z = !Tk.reserved.contains z := by
        unfold Tk.isNameT
        rw [h1]
        rfl
      rw [← e]
      exact k _ s1
    · have e : Tk.isNameT z = false := by
        unfold Tk.isNameT
        rw [h1]
        rfl
      rw [← e]
      exact k _ s1
def sp_is_ask_name : Sp := fun vs H Q _ => ∃ z : List Nat, vs = [.str (tx z)] ∧ z.length ≤ 100000 ∧ ∀ H', Same H H' → Q (.bl (Tk.isAskT z)) H'
theorem ok_is_ask_name (T : Tx K mg) : FnOk P w K mg base CX0 2 T.f_is_ask_name T.fd_is_ask_name ["value"] sp_is_ask_name := by
  have G_has_signs := ok_has_signs (P := P) (w := w) (base := base) T
  have b_has_signs := T.d_has_signs.F.binds (ps := ["value", "first", "others"]) fun _ _ _ _ _ _ us hl => match us, hl with | [_, _, _], _ => rfl
  refine T.d_is_ask_name.F.ok sc_is_ask_name (fun vs H Q E h => ?_) (fun cdv A outer s H vs Q E hr h => ?_)
  · obtain ⟨z, rfl, _⟩ := h
    rfl
  · obtain ⟨z, rfl, hz, k⟩ := h
    have hu := hu_of hr
    have hu64 := hr.units
    refine ⟨_, (pss_one (ps_ret (pe_call G_has_signs (hr.mono (by decide)) rfl T.d_has_signs.g T.d_has_signs.F.kp b_has_signs .nil pass0 (pa_cons (pv 0) (pa_cons (pe_const T.c_GREAT (by rfl)) (pa_cons (pe_op (opAdd (K := K) rfl) (pe_op (opAdd (K := K) rfl) (pe_const T.c_SMALL (by rfl)) (pe_const T.c_GREAT (by rfl))) (pe_const T.c_FIGURES_words (by rfl))) pa_nil)))))), ?_⟩
    tm_at "rd"
    refine q_add_tx (by decide) ?_
    tm_at "rd"
    refine q_add_tx (by decide) ?_
    tm_at "rd"
    refine ⟨z, _, _, rfl, hz, fun H1 s1 => ?_⟩
    rw [hasS_ask]
    exact k _ s1
/-! ### sort_of_run -/
def sp_sort_of_run : Sp := fun vs H Q _ => ∃ z : List Nat, vs = [.str (tx z)] ∧ z.length ≤ 100000 ∧ ∀ H', Same H H' → Q (.str (tx (Tk.sortOf z))) H'
theorem ok_sort_of_run (T : Tx K mg) : FnOk P w K mg base CX0 3 T.f_sort_of_run T.fd_sort_of_run ["run"] sp_sort_of_run := by
  have G_is_name := ok_is_name (P := P) (w := w) (base := base) T
  have G_is_ask_name := ok_is_ask_name (P := P) (w := w) (base := base) T
  have b_is_name := T.d_is_name.F.binds (ps := ["value"]) fun _ _ _ _ _ _ us hl => match us, hl with | [_], _ => rfl
  have b_is_ask_name := T.d_is_ask_name.F.binds (ps := ["value"]) fun _ _ _ _ _ _ us hl => match us, hl with | [_], _ => rfl
  refine T.d_sort_of_run.F.ok sc_sort_of_run (fun vs H Q E h => ?_) (fun cdv A outer s H vs Q E hr h => ?_)
  · obtain ⟨z, rfl, _⟩ := h
    rfl
  · obtain ⟨z, rfl, hz, k⟩ := h
    have hu := hu_of hr
    have hu64 := hr.units
    refine ⟨_, (pss_cons (ps_if (pt_val (pe_callB (caAll (K := K) rfl rfl) (by rfl) T.n_all (by decide +kernel) (pa_cons (pe_lc (own := [("sign", 1)]) (g := gName 1) rfl sc_sort_of_run.nd (pi_str (pv 0)) (blkOk_by (own := [("sign", 1)]) (N := nm_sort_of_run) (sc := defScope s_sort_of_run) (by decide +kernel)) (fun _ _ _ _ _ => pg_name (i := 1) sc_sort_of_run.nd rfl (Or.inl rfl)) (fun _ _ _ _ _ => pts_nil) (fun _ _ _ _ _ => (pe_cmpR (opIn (K := K) rfl) (pv 1) (pe_const T.c_DIGITS (by rfl)) (by rfl)))) pa_nil))) (pss_one (ps_ret (pe_const T.c_FIGURES_tokens (by rfl)))) pss_nil)
      (pss_cons (ps_if (pt_cmpR (opIn (K := K) rfl) (pv 0) (pe_const T.c_RESERVED (by rfl)) (by rfl)) (pss_one (ps_ret (pe_const T.c_WORD (by rfl)))) pss_nil)
      (pss_cons (ps_if (pt_val (pe_call G_is_name (hr.mono (by decide)) rfl T.d_is_name.g T.d_is_name.F.kp b_is_name .nil pass0 (pa_cons (pv 0) pa_nil))) (pss_one (ps_ret (pe_const T.c_NAME (by rfl)))) pss_nil)
      (pss_one (ps_ret (pe_ifExp (pt_val (pe_call G_is_ask_name (hr.mono (by decide)) rfl T.d_is_ask_name.g T.d_is_ask_name.F.kp b_is_ask_name .nil pass0 (pa_cons (pv 0) pa_nil))) (pe_const T.c_ASK (by rfl)) (pe_const T.c_NONE (by rfl)))))))), ?_⟩
    tm_at "rd"
    intro D hD
    refine lc_txt (fun _ => true) (fun x => .bl (Tk.isDig x)) (by rw [len_tx]; exact Nat.lt_of_le_of_lt hz (by decide)) (fun x _ H2 Q2 s2 q => q) (fun x _ _ H2 Q2 s2 q => ?_) hD ?_
    · tm_at "rd"
      rw [mem_digits]
      exact q
    · refine ⟨D, z.map Tk.isDig, rfl, SqL.of (by rw [upd_same, filt_all, List.map_map]; rfl), _, rfl, ?_⟩
      have e2 : (z.map Tk.isDig).all id = z.all Tk.isDig := by rw [List.all_map]; rfl
      rw [e2]
      have s1 := same_new (o := .lst (List.map (fun x => V.bl (Tk.isDig x)) (List.filter (fun _ => true) (tl (tx z))))) hD
      unfold Tk.sortOf at k
      refine biff (fun h1 => ?_) (fun h1 => ?_)
      · rw [if_pos h1] at k
        tm_at "rd"
        exact k _ s1
      · rw [if_neg (by rw [h1]; exact Bool.false_ne_true)] at k
        tm_at "rd"
        refine q_in_txs (ys := Tk.reserved) (.inr (T.t_RESERVED _)) ?_
        tm_at "rd"
        refine biff (fun h2 => ?_) (fun h2 => ?_)
        · rw [if_pos h2] at k
          tm_at "rd"
          exact k _ s1
        · rw [if_neg (by rw [h2]; exact Bool.false_ne_true)] at k
          tm_at "rd"
          refine ⟨z, rfl, hz, fun H2 s2 => ⟨_, rfl, ?_⟩⟩
          refine biff (fun h3 => ?_) (fun h3 => ?_)
          · rw [if_pos h3] at k
            tm_at "rd"
            exact k _ (s1.trans s2)
          · rw [if_neg (by rw [h3]; exact Bool.false_ne_true)] at k
            tm_at "rd"
            refine ⟨z, rfl, hz, fun H3 s3 => ⟨_, rfl, ?_⟩⟩
            refine biff (fun h4 => ?_) (fun h4 => ?_)
            · rw [if_pos h4] at k
              tm_at "rd"
              exact k _ ((s1.trans s2).trans s3)
            · rw [if_neg (by rw [h4]; exact Bool.false_ne_true)] at k
              tm_at "rd"
              exact k _ ((s1.trans s2).trans s3)
/-! ### run_from -/
theorem run_step {l : List Nat} {j c : Nat} (h : l[j]? = some c) : Tk.runOf (l.drop j) = if Tk.isRun c = true then c :: Tk.runOf (l.drop (j + 1)) else [] := by
  obtain ⟨hj, e⟩ := List.getElem?_eq_some_iff.mp h
  subst e
  rw [List.drop_eq_getElem_cons hj]
  unfold Tk.runOf
  rw [List.takeWhile_cons]
theorem run_end {l : List Nat} {j : Nat} (h : l.length ≤ j) : Tk.runOf (l.drop j) = [] := by
  rw [List.drop_eq_nil_of_le h]
  rfl
def sp_run_from : Sp := fun vs H Q _ => ∃ (l : List Nat) (c : Nat), vs = [.str (tx l), .int (c : Int)] ∧ l.length ≤ 100000 ∧ c ≤ l.length ∧ ∀ H', Same H H' → Q (.str (tx (Tk.runOf (l.drop c)))) H'
theorem ok_run_from (T : Tx K mg) : FnOk P w K mg base CX0 1 T.f_run_from T.fd_run_from ["line", "column"] sp_run_from := by
  refine T.d_run_from.F.ok sc_run_from (fun vs H Q E h => ?_) (fun cdv A outer s H vs Q E hr h => ?_)
  · obtain ⟨l, c, rfl, _⟩ := h
    rfl
  · obtain ⟨l, c, rfl, hz, hc, k⟩ := h
    have hu := hu_of hr
    have hu64 := hr.units
    refine ⟨_, (pss_cons (ps_set (i := 2) sc_run_from.nd rfl (Or.inl rfl) (pv 1))
      (pss_cons (ps_while PassesOwn.never (PW.pt (pw_and (pt_cmpR op_lt (pv 2) (pe_callB (caLen (K := K) rfl) (by rfl) T.n_len (by decide +kernel) (pa_cons (pv 0) pa_nil)) (nomark _)) (pw_and1 (PW.pt (pw_or (pt_cmpR (opIn (K := K) rfl) (pe_ix (ixAny (K := K) rfl) (pv 0) (pv 2) (fun _ _ => rfl)) (pe_const T.c_LETTERS (by rfl)) (by rfl)) (pw_or (pt_cmpR (opIn (K := K) rfl) (pe_ix (ixAny (K := K) rfl) (pv 0) (pv 2) (fun _ _ => rfl)) (pe_const T.c_DIGITS (by rfl)) (by rfl)) (pw_or1 (pt_cmpR (opEq (K := K) rfl hu64) (pe_ix (ixAny (K := K) rfl) (pv 0) (pv 2) (fun _ _ => rfl)) (pe_lit "_") (nomark _))))))))) (pss_one (ps_aug (i := 2) sc_run_from.nd rfl (Or.inl rfl) pe_int ip_add)))
      (pss_one (ps_ret (pe_slice (slAny (K := K) rfl) (pv 0) (po_some (pv 1)) (po_some (pv 2))))))), ?_⟩
    tm_at "rd"
    refine r_while (fun σ H1 => H1 = H ∧ ∃ j : Nat, σ = [some (.str (tx l)), some (.int (c : Int)), some (.int (j : Int))] ∧ c ≤ j ∧ j ≤ l.length ∧ Tk.runOf (l.drop c) = (l.drop c).take (j - c) ++ Tk.runOf (l.drop j))
      (fun σ _ => match σ with | [_, _, some (.int j)] => l.length - j.toNat | _ => 0) ⟨rfl, c, rfl, Nat.le_refl _, hc, by simp⟩ ?_
    rintro σ H1 ⟨rfl, j, rfl, h1, h2, h3⟩
    have fin : Tk.runOf (l.drop j) = [] → Q (.str (tx ((l.drop c).take (j - c)))) H1 := fun e => by
      rw [e, List.append_nil] at h3
      rw [← h3]
      exact k _ (Same.refl _)
    have go : ∀ x, l[j]? = some x → Tk.isRun x = true → Tk.runOf (l.drop c) = (l.drop c).take (j + 1 - c) ++ Tk.runOf (l.drop (j + 1)) := fun x hx hr => by
      rw [h3, run_step hx, if_pos hr]
      have e1 : j + 1 - c = (j - c) + 1 := by omega
      have e2 : (l.drop c)[j - c]? = some x := by rw [List.getElem?_drop, show c + (j - c) = j by omega, hx]
      rw [e1, List.take_add_one, e2]
      simp
    tm_at "rd"
    refine bd (fun h4 => ?_) (fun h4 => ?_)
    · obtain ⟨x, hx⟩ : ∃ x, l[j]? = some x := ⟨_, List.getElem?_eq_getElem (by omega)⟩
      have hj : j < l.length := by omega
      tm_at "rd"
      refine q_ix_tx hz hx ?_
      tm_at "rd"
      rw [mem_letters]
      refine biff (fun h5 => ?_) (fun h5 => ?_)
      · tm_at "rd"
        exact ⟨⟨rfl, j + 1, rfl, by omega, by omega, go x hx (by unfold Tk.isRun; rw [h5]; rfl)⟩, by show l.length - ((j : Int) + 1).toNat < l.length - (j : Int).toNat; omega⟩
      · tm_at "rd"
        refine q_ix_tx hz hx ?_
        tm_at "rd"
        rw [mem_digits]
        refine biff (fun h6 => ?_) (fun h6 => ?_)
        · tm_at "rd"
          exact ⟨⟨rfl, j + 1, rfl, by omega, by omega, go x hx (by unfold Tk.isRun; rw [h5, h6]; rfl)⟩, by show l.length - ((j : Int) + 1).toNat < l.length - (j : Int).toNat; omega⟩
        · tm_at "rd"
          refine q_ix_tx hz hx ?_
          refine q_eq_tx (a := [x]) ?_
          have e95 : decide ([x] = cs "_") = (x == 95) := by
            have q : cs "_" = [95] := by decide
            rw [q, Bool.eq_iff_iff, decide_eq_true_eq, beq_iff_eq]
            simp
          rw [e95]
          tm_at "rd"
          refine biff (fun h7 => ?_) (fun h7 => ?_)
          · tm_at "rd"
            exact ⟨⟨rfl, j + 1, rfl, by omega, by omega, go x hx (by unfold Tk.isRun; rw [h5, h6, h7]; rfl)⟩, by show l.length - ((j : Int) + 1).toNat < l.length - (j : Int).toNat; omega⟩
          · tm_at "rd"
            refine q_cut_tx hz ?_
            refine fin ?_
            rw [run_step hx, if_neg (by unfold Tk.isRun; rw [h5, h6, h7]; decide)]
    · tm_at "rd"
      refine q_cut_tx hz (fin (run_end (by omega)))
end
end K15

set_option maxHeartbeats 4000000
/-! W15b: tokens of a line, of a text. -/
namespace K15
open PySem PySem.Spec PyProof.Rows L2 TL Ak
local macro_rules | `(tactic| tm_at "rd1") => `(tactic| with_reducible first
  | refine r_seq ?_ | refine r_ifS ?_ | refine r_ret ?_ | refine r_asg ?_ | refine r_next ?_ | refine r_drop ?_ | refine r_par ?_ | refine r_brk ?_ | refine r_cont ?_
  | refine r_op ?_ | refine r_c ?_ | refine r_cb ?_ | refine r_cons ?_ | refine r_nil ?_ | refine r_un ?_ | refine r_tB ?_ | refine r_test ?_ | refine r_not ?_ | refine r_and ?_ | refine r_or ?_ | refine r_andV ?_ | refine r_orV ?_ | refine r_notV ?_ | refine r_if ?_ | refine r_chain ?_
  | refine r_tup ?_ | refine r_lst ?_ | refine r_sl ?_ | refine r_part ?_ | refine r_nopart ?_ | refine r_call ?_ | refine r_callK ?_ | refine r_bm ?_ | refine r_bm0 ?_ | refine r_m1 ?_ | refine r_m0 ?_ | refine r_isN ?_ | refine r_notN ?_
  | refine r_gcons ?_ | refine r_gnil ?_ | refine r_gsub ?_ | refine r_name ?_ | refine r_ilist ?_ | refine r_itup ?_ | refine r_istr ?_ | refine r_irng1 ?_ | refine r_ienum ?_ | refine r_mko ?_ | refine r_yes ?_ | refine r_lc ?_ | refine r_for ?_ | refine turn_i ?_
  | refine r_bl ?_ | refine r_int ?_ | refine r_two ?_ | refine r_str ?_ | refine r_two1 ?_
  | refine b_t ?_ | refine b_f ?_ | refine b_nt ?_ | refine b_nf ?_ | refine q_isi_str ?_ | refine q_u ?_ | refine q_i0 ?_ | refine q_ipI ?_ | refine q_add_int ?_ | refine q_eq_int ?_ | refine q_ne_int ?_ | refine q_eq_tx ?_ | refine q_ne_tx ?_ | refine q_in_sg ?_ | refine q_ni_sg ?_)
local macro_rules | `(tactic| tm_at "rd2") => `(tactic| first
  | tm_at "rd1" | refine r_var rfl ?_ | refine r_aug rfl ?_ 
  | refine And.intro (small_n (by simp)) ?_ | tm_at "rdl")
local macro_rules | `(tactic| tm_at "rdl") => `(tactic| first | (with_reducible refine q_len_tx (by assumption) ?_) | (with_reducible refine q_len_tx (by omega) ?_))
local macro_rules | `(tactic| tm_at "rd") => `(tactic| repeat tm_at "rd2")

section
variable {P : Program} {w : World} {K : PySem.W.Frag} {mg : Str → Option Value} {base : Heap}
/-! ### next_in -/
theorem mem_singles (c : Nat) : decide (c ∈ cs "()[],:=<+-*|") = Tk.singles.contains c := by
  rw [Bool.eq_iff_iff, decide_eq_true_eq, List.contains_iff_mem]
  rfl
theorem two_eq (y : List Nat) : ([cs "->", cs "::"] : List (List Nat)).contains (y.take 2) = Tk.isTwo y := by
  unfold Tk.isTwo
  rw [Bool.eq_iff_iff, List.contains_iff_mem, Bool.or_eq_true, decide_eq_true_eq, decide_eq_true_eq]
  simp
def sp_next_in : Sp := fun vs H Q _ => ∃ (l : List Nat) (c : Nat), vs = [.str (tx l), .int (c : Int)] ∧ l.length ≤ 90000 ∧ c < l.length ∧
  ∀ H' p, Same H H' → H' p = some (.tup [.str (tx (Tk.tokAt (l.drop c)).1), .str (tx ((l.drop c).take (Tk.tokAt (l.drop c)).2))]) → Q (.ref p) H'
theorem ok_next_in (T : Tx K mg) : FnOk P w K mg base CX0 4 T.f_next_in T.fd_next_in ["line", "column"] sp_next_in := by
  have G_run_from := ok_run_from (P := P) (w := w) (base := base) T
  have G_sort_of_run := ok_sort_of_run (P := P) (w := w) (base := base) T
  have b_run_from := T.d_run_from.F.binds (ps := ["line", "column"]) fun _ _ _ _ _ _ us hl => match us, hl with | [_, _], _ => rfl
  have b_sort_of_run := T.d_sort_of_run.F.binds (ps := ["run"]) fun _ _ _ _ _ _ us hl => match us, hl with | [_], _ => rfl
  refine T.d_next_in.F.ok sc_next_in (fun vs H Q E h => ?_) (fun cdv A outer s H vs Q E hr h => ?_)
  · obtain ⟨l, c, rfl, _⟩ := h
    rfl
  · obtain ⟨l, c, rfl, hz, hc, k⟩ := h
    have hu := hu_of hr
    have hu64 := hr.units
    obtain ⟨x, hx⟩ : ∃ x, l[c]? = some x := ⟨_, List.getElem?_eq_getElem hc⟩
    have hd : l.drop c = x :: l.drop (c + 1) := by
      obtain ⟨h1, h2⟩ := List.getElem?_eq_some_iff.mp hx
      rw [← h2]
      exact List.drop_eq_getElem_cons h1
    have pre1 : (l.drop c).take (Tk.runOf (l.drop c)).length = Tk.runOf (l.drop c) := by
      have := List.takeWhile_prefix (l := l.drop c) Tk.isRun
      exact (List.prefix_iff_eq_take.mp this).symm
    refine ⟨_, (pss_cons (ps_set (i := 2) sc_next_in.nd rfl (Or.inl rfl) (pe_call G_run_from (hr.mono (by decide)) rfl T.d_run_from.g T.d_run_from.F.kp b_run_from .nil pass0 (pa_cons (pv 0) (pa_cons (pv 1) pa_nil))))
      (pss_cons (ps_if (pt_cmpR (opNe (K := K) rfl hu64) (pv 2) (pe_lit "") (nomark _)) (pss_one (ps_ret (pe_tup (pa_cons (pe_call G_sort_of_run (hr.mono (by decide)) rfl T.d_sort_of_run.g T.d_sort_of_run.F.kp b_sort_of_run .nil pass0 (pa_cons (pv 2) pa_nil)) (pa_cons (pv 2) pa_nil))))) pss_nil)
      (pss_cons (ps_if (pt_cmpR (opIn (K := K) rfl) (pe_slice (slAny (K := K) rfl) (pv 0) (po_some (pv 1)) (po_some (pe_op (opAdd (K := K) rfl) (pv 1) pe_int))) (pe_const T.c_DOUBLES (by rfl)) (by rfl)) (pss_one (ps_ret (pe_tup (pa_cons (pe_const T.c_SIGN (by rfl)) (pa_cons (pe_slice (slAny (K := K) rfl) (pv 0) (po_some (pv 1)) (po_some (pe_op (opAdd (K := K) rfl) (pv 1) pe_int))) pa_nil))))) pss_nil)
      (pss_one (ps_ret (pe_ifExp (pt_cmpR (opIn (K := K) rfl) (pe_ix (ixAny (K := K) rfl) (pv 0) (pv 1) (fun _ _ => rfl)) (pe_const T.c_SINGLES (by rfl)) (by rfl)) (pe_tup (pa_cons (pe_const T.c_SIGN (by rfl)) (pa_cons (pe_ix (ixAny (K := K) rfl) (pv 0) (pv 1) (fun _ _ => rfl)) pa_nil))) (pe_tup (pa_cons (pe_const T.c_NONE (by rfl)) (pa_cons (pe_ix (ixAny (K := K) rfl) (pv 0) (pv 1) (fun _ _ => rfl)) pa_nil))))))))), ?_⟩
    tm_at "rd"
    refine ⟨l, c, rfl, by omega, by omega, fun H1 s1 => ?_⟩
    tm_at "rd"
    unfold Tk.tokAt at k
    refine bnd (fun h1 => ?_) (fun h1 => ?_)
    · have h1' : Tk.runOf (l.drop c) ≠ [] := h1
      rw [if_pos h1'] at k
      tm_at "rd"
      refine ⟨_, rfl, ?_, fun H2 s2 => ?_⟩
      · have := (List.takeWhile_sublist (l := l.drop c) Tk.isRun).length_le
        have : (Tk.runOf (l.drop c)).length ≤ (l.drop c).length := this
        rw [List.length_drop] at this
        omega
      · tm_at "rd"
        intro p hp
        refine k _ p ((s1.trans s2).trans (same_new hp)) ?_
        rw [upd_same, pre1]
    · have h1' : ¬ Tk.runOf (l.drop c) ≠ [] := fun z => z h1
      rw [if_neg h1'] at k
      tm_at "rd"
      refine q_cut_tx (j := c + 2) (by omega) ?_
      tm_at "rd"
      refine q_in_txs (ys := [cs "->", cs "::"]) (.inr (T.t_DOUBLES H1)) ?_
      rw [show c + 2 - c = 2 by omega, two_eq]
      tm_at "rd"
      refine biff (fun h2 => ?_) (fun h2 => ?_)
      · rw [if_pos h2] at k
        tm_at "rd"
        refine q_cut_tx (j := c + 2) (by omega) ?_
        rw [show c + 2 - c = 2 by omega]
        tm_at "rd"
        intro p hp
        refine k _ p (s1.trans (same_new hp)) ?_
        rw [upd_same]
        rfl
      · rw [if_neg (by rw [h2]; exact Bool.false_ne_true)] at k
        tm_at "rd"
        refine q_ix_tx (by omega) hx ?_
        tm_at "rd"
        have e1 : Tk.singles.contains ((l.drop c).headD 0) = decide (x ∈ cs "()[],:=<+-*|") := by rw [mem_singles, hd]; rfl
        have e2 : (l.drop c).take 1 = [x] := by rw [hd]; rfl
        rw [e1] at k
        refine biff (fun h3 => ?_) (fun h3 => ?_)
        · rw [if_pos h3] at k
          tm_at "rd"
          refine q_ix_tx (by omega) hx ?_
          tm_at "rd"
          intro p hp
          refine k _ p (s1.trans (same_new hp)) ?_
          rw [upd_same, e2]
          rfl
        · rw [if_neg (by rw [h3]; exact Bool.false_ne_true)] at k
          tm_at "rd"
          refine q_ix_tx (by omega) hx ?_
          tm_at "rd"
          intro p hp
          refine k _ p (s1.trans (same_new hp)) ?_
          rw [upd_same, e2]
          rfl
/-! ### row_tokens -/
def tokD (t : Tk.T) : PyData := .tuple [.str (tx t.sort), .str (tx t.text), .int (t.row : Int), .int (t.col : Int)]
theorem flat_toks : ∀ ts : List Tk.T, flatDs (ts.map tokD) = true
  | [] => rfl
  | t :: ts => by
    show (flatD (tokD t) && flatDs (ts.map tokD)) = true
    rw [flat_toks ts]
    rfl
theorem tok_dp {H : Hp} {p : Addr} {t : Tk.T} (h : H p = some (.tup [.str (tx t.sort), .str (tx t.text), .int (t.row : Int), .int (t.col : Int)])) : Dp K H (.ref p) (tokD t) :=
  .tup (.inl (.inl h)) (.cons (.str _) (.cons (.str _) (.cons (.int _) (.cons (.int _) .nil))))
def sp_row_tokens (K : PySem.W.Frag) : Sp := fun vs H Q _ => ∃ (r : Nat) (l : List Nat), vs = [.int (r : Int), .str (tx l)] ∧ l.length ≤ 90000 ∧
  ∀ H' p, Same H H' → H p = none → (Tk.row1 r l 0).length ≤ l.length → LstD K H' p ((Tk.row1 r l 0).map tokD) → Q (.ref p) H'
theorem ok_row_tokens (T : Tx K mg) : FnOk P w K mg base CX0 5 T.f_row_tokens T.fd_row_tokens ["row", "line"] (sp_row_tokens K) := by
  have G_next_in := ok_next_in (P := P) (w := w) (base := base) T
  have b_next_in := T.d_next_in.F.binds (ps := ["line", "column"]) fun _ _ _ _ _ _ us hl => match us, hl with | [_, _], _ => rfl
  refine T.d_row_tokens.F.ok sc_row_tokens (fun vs H Q E h => ?_) (fun cdv A outer s H vs Q E hr h => ?_)
  · obtain ⟨r, l, rfl, _⟩ := h
    rfl
  · obtain ⟨r, l, rfl, hz, k⟩ := h
    have hu := hu_of hr
    have hu64 := hr.units
    refine ⟨_, (pss_cons (ps_par (i := 2) (j := 3) rfl sc_row_tokens.nd rfl rfl (by decide) rfl rfl (pa_cons (pe_lst pa_nil) (pa_cons pe_int pa_nil)) (by rfl))
      (pss_cons (ps_while PassesOwn.never (PW.pt (pw_and (pt_cmpR op_lt (pv 3) (pe_callB (caLen (K := K) rfl) (by rfl) T.n_len (by decide +kernel) (pa_cons (pv 1) pa_nil)) (nomark _)) (pw_and1 (pt_cmpR (opNe (K := K) rfl hu64) (pe_ix (ixAny (K := K) rfl) (pv 1) (pv 3) (fun _ _ => rfl)) (pe_const T.c_REMARK (by rfl)) (nomark _))))) (pss_one (ps_if (pt_cmpR (opEq (K := K) rfl hu64) (pe_ix (ixAny (K := K) rfl) (pv 1) (pv 3) (fun _ _ => rfl)) (pe_lit " ") (nomark _)) (pss_one (ps_aug (i := 3) sc_row_tokens.nd rfl (Or.inl rfl) pe_int ip_add)) (pss_cons (ps_asg (pe_call G_next_in (hr.mono (by decide)) rfl T.d_next_in.g T.d_next_in.F.kp b_next_in .nil pass0 (pa_cons (pv 1) (pa_cons (pv 3) pa_nil))) (pg_tup rfl (pgs_cons (pg_name (i := 4) sc_row_tokens.nd rfl (Or.inl rfl)) (pgs_cons (pg_name (i := 5) sc_row_tokens.nd rfl (Or.inl rfl)) pgs_nil))))
      (pss_cons (ps_expr (pe_bm PySem.F.plainAttrs_list PySem.F.slot_list_append PySem.F.type_list_append mt_append (pv 2) (pa_cons (pe_tup (pa_cons (pv 4) (pa_cons (pv 5) (pa_cons (pv 0) (pa_cons (pv 3) pa_nil))))) pa_nil)))
      (pss_one (ps_set (i := 3) sc_row_tokens.nd rfl (Or.inl rfl) (pe_ifExp (pt_cmpR (opEq (K := K) rfl hu64) (pv 4) (pe_const T.c_NONE (by rfl)) (nomark _)) (pe_callB (caLen (K := K) rfl) (by rfl) T.n_len (by decide +kernel) (pa_cons (pv 1) pa_nil)) (pe_op (opAdd (K := K) rfl) (pv 3) (pe_callB (caLen (K := K) rfl) (by rfl) T.n_len (by decide +kernel) (pa_cons (pv 5) pa_nil)))))))))))
      (pss_one (ps_ret (pv 2))))), ?_⟩
    tm_at "rd"
    intro p hp
    tm_at "rd"
    refine r_while (fun σ H1 => ∃ (j : Nat) (ds : List Tk.T) (o1 o2 : Option V), σ = [some (.int (r : Int)), some (.str (tx l)), some (.ref p), some (.int (j : Int)), o1, o2] ∧ Same H H1 ∧ LstD K H1 p (ds.map tokD) ∧
        j ≤ l.length ∧ ds.length ≤ j ∧ Tk.row1 r l 0 = ds ++ Tk.row1 r (l.drop j) j)
      (fun σ _ => match σ with | [_, _, _, some (.int j), _, _] => l.length - j.toNat | _ => 0) ⟨0, [], none, none, rfl, same_new hp, ⟨[], upd_same, .nil⟩, Nat.zero_le _, Nat.le_refl _, rfl⟩ ?_
    rintro σ H1 ⟨j, ds, o1, o2, rfl, s1, hL, h1, h2, h3⟩
    have fin : Tk.row1 r (l.drop j) j = [] → Q (.ref p) H1 := fun e => by
      rw [e, List.append_nil] at h3
      subst h3
      exact k _ p s1 hp (Nat.le_trans h2 h1) hL
    tm_at "rd"
    refine bd (fun h4 => ?_) (fun h4 => ?_)
    · have hj : j < l.length := by omega
      obtain ⟨x, hx⟩ : ∃ x, l[j]? = some x := ⟨_, List.getElem?_eq_getElem hj⟩
      have hd : l.drop j = x :: l.drop (j + 1) := by
        obtain ⟨h1, h2⟩ := List.getElem?_eq_some_iff.mp hx
        rw [← h2]
        exact List.drop_eq_getElem_cons h1
      tm_at "rd"
      refine q_ix_tx (by omega) hx ?_
      refine q_ne_tx (a := [x]) ?_
      have e35 : cs "#" = [35] := by decide
      have e32 : cs " " = [32] := by decide
      rw [e35]
      tm_at "rd"
      refine bnd (fun h5 => ?_) (fun h5 => ?_)
      · have n35 : x ≠ 35 := fun z => h5 (by rw [z])
        tm_at "rd"
        refine q_ix_tx (by omega) hx ?_
        refine q_eq_tx (a := [x]) ?_
        rw [e32]
        tm_at "rd"
        refine bd (fun h6 => ?_) (fun h6 => ?_)
        · have e : x = 32 := by simpa using h6
          subst e
          tm_at "rd"
          refine ⟨⟨j + 1, ds, o1, o2, rfl, s1, hL, hj, by omega, ?_⟩, by show l.length - ((j : Int) + 1).toNat < l.length - (j : Int).toNat; omega⟩
          rw [h3, hd, Tk.row1_sp]
        · have n32 : x ≠ 32 := fun z => h6 (by rw [z])
          tm_at "rd"
          refine ⟨l, j, rfl, hz, hj, fun H2 q s2 hq => ?_⟩
          refine r_gtup (SqT.of hq) rfl ?_
          tm_at "rd"
          obtain ⟨vs, hv, hD⟩ := hL.same s2
          have hvl := LstD.len hv (hL.same s2)
          rw [List.length_map] at hvl
          refine ⟨.inl ⟨rfl, vs, SqL.of hv⟩, ?_⟩
          tm_at "rd"
          intro p2 hp2
          have n1 : p ≠ p2 := ne_of_none hv hp2
          have hv2 : (upd H2 p2 (.tup [.str (tx (Tk.tokAt (l.drop j)).1), .str (tx ((l.drop j).take (Tk.tokAt (l.drop j)).2)), .int (r : Int), .int (j : Int)])) p = some (.lst vs) := by rw [upd_ne n1]; exact hv
          refine ⟨p, vs, .ref p2, rfl, rfl, hv2, Nat.lt_of_le_of_lt (show vs.length ≤ 90000 by omega) (by decide), ?_⟩
          -- the token, the list behind it
          let t : Tk.T := ⟨(Tk.tokAt (l.drop j)).1, (l.drop j).take (Tk.tokAt (l.drop j)).2, r, j⟩
          have hk1 := Tk.tokAt_pos (l.drop j)
          have hk2 : (Tk.tokAt (l.drop j)).2 ≤ l.length - j := by
            have := Tk.tokAt_le x (l.drop (j + 1))
            rw [← hd, List.length_drop] at this
            exact this
          have er : Tk.row1 r (l.drop j) j = t :: (if t.sort = Tk.sNone then [] else Tk.row1 r (l.drop (j + (Tk.tokAt (l.drop j)).2)) (j + (Tk.tokAt (l.drop j)).2)) := by
            rw [hd, Tk.row1_tok r j n35 n32, ← hd, List.drop_drop]
          have s3 : Same H (upd (upd H2 p2 (.tup [.str (tx (Tk.tokAt (l.drop j)).1), .str (tx ((l.drop j).take (Tk.tokAt (l.drop j)).2)), .int (r : Int), .int (j : Int)])) p (.lst (vs ++ [.ref p2]))) := fun b o e => by
            rw [upd_ne (ne_of_none e hp)]
            exact same_new hp2 _ _ (s2 _ _ (s1 _ _ e))
          have hL3 : LstD K (upd (upd H2 p2 (.tup [.str (tx (Tk.tokAt (l.drop j)).1), .str (tx ((l.drop j).take (Tk.tokAt (l.drop j)).2)), .int (r : Int), .int (j : Int)])) p (.lst (vs ++ [.ref p2]))) p ((ds ++ [t]).map tokD) := by
            rw [List.map_append]
            refine LstD.more hv2 (LstD.same (same_new hp2) ⟨vs, hv, hD⟩) (tok_dp (t := t) upd_same) ?_
            have := flat_toks (ds ++ [t])
            rwa [List.map_append] at this
          tm_at "rd"
          refine bd (fun h7 => ?_) (fun h7 => ?_)
          · tm_at "rd"
            refine ⟨⟨l.length, ds ++ [t], _, _, rfl, s3, hL3, Nat.le_refl _, ?_, ?_⟩, by show l.length - ((l.length : Nat) : Int).toNat < l.length - (j : Int).toNat; omega⟩
            · rw [List.length_append, List.length_singleton]
              omega
            · rw [h3, er, if_pos (show t.sort = Tk.sNone from h7), List.drop_length, Tk.row1_nil, List.append_nil]
          · tm_at "rd"
            refine q_len_tx (by rw [List.length_take, List.length_drop]; omega) ?_
            tm_at "rd"
            have el : ((l.drop j).take (Tk.tokAt (l.drop j)).2).length = (Tk.tokAt (l.drop j)).2 := by rw [List.length_take, List.length_drop]; omega
            rw [el]
            refine ⟨⟨j + (Tk.tokAt (l.drop j)).2, ds ++ [t], _, _, rfl, s3, hL3, by omega, ?_, ?_⟩, by show l.length - ((j : Int) + ((Tk.tokAt (l.drop j)).2 : Int)).toNat < l.length - (j : Int).toNat; omega⟩
            · rw [List.length_append, List.length_singleton]
              omega
            · rw [h3, er, if_neg (show ¬ t.sort = Tk.sNone from h7), List.append_assoc]
              rfl
      · have e : x = 35 := by simpa using h5
        subst e
        tm_at "rd"
        exact fin (by rw [hd, Tk.row1_hash])
    · tm_at "rd"
      exact fin (by rw [List.drop_eq_nil_of_le (by omega), Tk.row1_nil])

/-! ### split_of -/
theorem tokD_ok {t : Tk.T} (h1 : ∀ c ∈ t.sort, c < 128) (h2 : ∀ c ∈ t.text, c < 128) : PyData.canLay0 (tokD t) = true := by
  have ok : ∀ l : List Nat, (∀ c ∈ l, c < 128) → PyData.strOk (tx l) = true := fun l h => by
    unfold PyData.strOk
    rw [List.all_toArray, List.all_eq_true]
    intro c hc
    have := h c hc
    simp
    omega
  simp only [tokD, PyData.canLay0, PyData.canLayAll0, ok _ h1, ok _ h2, Bool.and_self]
end
end K15

set_option maxHeartbeats 4000000
/-! W15c: tokens of a text. -/
namespace K15
open PySem PySem.Spec PyProof.Rows L2 TL Ak
local macro_rules | `(tactic| tm_at "rd1") => `(tactic| with_reducible first
  | refine r_seq ?_ | refine r_ifS ?_ | refine r_ret ?_ | refine r_asg ?_ | refine r_next ?_ | refine r_drop ?_ | refine r_par ?_ | refine r_brk ?_ | refine r_cont ?_
  | refine r_op ?_ | refine r_c ?_ | refine r_cb ?_ | refine r_cons ?_ | refine r_nil ?_ | refine r_un ?_ | refine r_tB ?_ | refine r_test ?_ | refine r_not ?_ | refine r_and ?_ | refine r_or ?_ | refine r_andV ?_ | refine r_orV ?_ | refine r_notV ?_ | refine r_if ?_ | refine r_chain ?_
  | refine r_tup ?_ | refine r_lst ?_ | refine r_sl ?_ | refine r_part ?_ | refine r_nopart ?_ | refine r_call ?_ | refine r_callK ?_ | refine r_bm ?_ | refine r_bm0 ?_ | refine r_m1 ?_ | refine r_m0 ?_ | refine r_isN ?_ | refine r_notN ?_
  | refine r_gcons ?_ | refine r_gnil ?_ | refine r_gsub ?_ | refine r_name ?_ | refine r_ilist ?_ | refine r_itup ?_ | refine r_istr ?_ | refine r_irng1 ?_ | refine r_ienum ?_ | refine r_mko ?_ | refine r_yes ?_ | refine r_lc ?_ | refine r_for ?_ | refine turn_i ?_
  | refine r_bl ?_ | refine r_int ?_ | refine r_two ?_ | refine r_str ?_ | refine r_two1 ?_
  | refine b_t ?_ | refine b_f ?_ | refine b_nt ?_ | refine b_nf ?_ | refine q_isi_str ?_ | refine q_u ?_ | refine q_i0 ?_ | refine q_ipI ?_ | refine q_add_int ?_ | refine q_eq_int ?_ | refine q_ne_int ?_ | refine q_eq_tx ?_ | refine q_ne_tx ?_ | refine q_in_sg ?_ | refine q_ni_sg ?_)
local macro_rules | `(tactic| tm_at "rd2") => `(tactic| first
  | tm_at "rd1" | refine r_var rfl ?_ | refine r_aug rfl ?_ 
  | refine And.intro (small_n (by simp)) ?_ | tm_at "rdl")
local macro_rules | `(tactic| tm_at "rdl") => `(tactic| first | (with_reducible refine q_len_tx (by assumption) ?_) | (with_reducible refine q_len_tx (by omega) ?_))
local macro_rules | `(tactic| tm_at "rd") => `(tactic| repeat tm_at "rd2")

section
variable {P : Program} {w : World} {K : PySem.W.Frag} {mg : Str → Option Value} {base : Heap}
/-! ### plain words of tokens -/
theorem sort_ascii (r : List Nat) : ∀ c ∈ (Tk.sortOf r), c < 128 := by
  have h : ∀ s ∈ [Tk.sFig, Tk.sWord, Tk.sName, Tk.sAsk, Tk.sNone], ∀ c ∈ s, c < 128 := by decide
  unfold Tk.sortOf
  split
  · exact h _ (by simp)
  · split
    · exact h _ (by simp)
    · split
      · exact h _ (by simp)
      · split
        · exact h _ (by simp)
        · exact h _ (by simp)
theorem at_ascii (x : List Nat) : ∀ c ∈ (Tk.tokAt x).1, c < 128 := by
  have h : ∀ s ∈ [Tk.sSign, Tk.sNone], ∀ c ∈ s, c < 128 := by decide
  unfold Tk.tokAt
  split
  · exact sort_ascii _
  · split
    · exact h _ (by simp)
    · split
      · exact h _ (by simp)
      · exact h _ (by simp)
/-- a token of plain signs, not longer, not further on than many -/
def okT (m : Nat) (t : Tk.T) : Prop := (∀ c ∈ t.sort, c < 128) ∧ (∀ c ∈ t.text, c < 128) ∧ t.sort.length ≤ 7 ∧ t.text.length ≤ m ∧ t.row ≤ m ∧ t.col ≤ m
theorem sort_len (r : List Nat) : (Tk.sortOf r).length ≤ 7 := by
  have h : ∀ s ∈ [Tk.sFig, Tk.sWord, Tk.sName, Tk.sAsk, Tk.sNone], s.length ≤ 7 := by decide
  unfold Tk.sortOf
  split
  · exact h _ (by simp)
  · split
    · exact h _ (by simp)
    · split
      · exact h _ (by simp)
      · split
        · exact h _ (by simp)
        · exact h _ (by simp)
theorem at_len (x : List Nat) : (Tk.tokAt x).1.length ≤ 7 := by
  have h : ∀ s ∈ [Tk.sSign, Tk.sNone], s.length ≤ 7 := by decide
  unfold Tk.tokAt
  split
  · exact sort_len _
  · split
    · exact h _ (by simp)
    · split
      · exact h _ (by simp)
      · exact h _ (by simp)
theorem row_ok (m r : Nat) (hr : r ≤ m) : ∀ (n : Nat) (x : List Nat) (c : Nat), (∀ z ∈ x, z < 128) → c + x.length ≤ m → ∀ t ∈ Tk.rowT r n x c, okT m t := by
  intro n
  induction n with
  | zero => intro x c _ _ t ht; simp [Tk.rowT] at ht
  | succ n ih =>
    intro x c hx hm t ht
    cases x with
    | nil => simp [Tk.rowT] at ht
    | cons z y =>
      unfold Tk.rowT at ht
      split at ht
      · simp at ht
      · split at ht
        · exact ih y (c + 1) (fun q hq => hx q (List.mem_cons_of_mem _ hq)) (by simp only [List.length_cons] at hm; omega) t ht
        · rcases List.mem_cons.mp ht with e | ht
          · subst e
            refine ⟨at_ascii _, fun q hq => hx q (List.mem_of_mem_take hq), at_len _, ?_, hr, ?_⟩
            · show ((z :: y).take _).length ≤ m
              rw [List.length_take]
              omega
            · show c ≤ m
              omega
          · split at ht
            · simp at ht
            · have p := Tk.tokAt_pos (z :: y)
              have q := Tk.tokAt_le z y
              exact ih _ _ (fun q hq => hx q (List.mem_of_mem_drop hq)) (by rw [List.length_drop]; omega) t ht
theorem toks_shaped {m : Nat} (ts : List Tk.T) (h : ∀ t ∈ ts, okT m t) : SeqAt.shaped (.list (ts.map tokD)) = true := by
  have a : ∀ ts : List Tk.T, (∀ t ∈ ts, okT m t) → PyData.canLayAll0 (ts.map tokD) = true := by
    intro ts
    induction ts with
    | nil => intro _; rfl
    | cons t ts ih =>
      intro h
      show (PyData.canLay0 (tokD t) && PyData.canLayAll0 (ts.map tokD)) = true
      rw [ih fun q hq => h q (List.mem_cons_of_mem _ hq), tokD_ok (h t List.mem_cons_self).1 (h t List.mem_cons_self).2.1]
      rfl
  have b : ∀ ts : List Tk.T, PyData.depthAll (ts.map tokD) ≤ 1 := by
    intro ts
    induction ts with
    | nil => show PyData.depthAll [] ≤ 1; simp [PyData.depthAll]
    | cons t ts ih =>
      show PyData.depthAll (tokD t :: ts.map tokD) ≤ 1
      have e : PyData.depth (tokD t) = 1 := by simp [tokD, PyData.depth, PyData.depthAll]
      simp only [PyData.depthAll, e]
      omega
  unfold SeqAt.shaped
  rw [Bool.and_eq_true, decide_eq_true_eq]
  refine ⟨?_, ?_⟩
  · simp only [PyData.canLay0]
    exact a ts h
  · simp only [PyData.depth]
    have := b ts
    omega
theorem eqv_nil (ds : List PyData) : PyData.eqv (.list ds) (.list []) = ds.isEmpty := by
  cases ds <;> simp [PyData.eqv, PyData.eqvAll]
theorem dp_tok {H : Hp} {v : V} {t : Tk.T} (h : Dp K H v (tokD t)) : ∃ q, v = .ref q ∧ SqT K H q [.str (tx t.sort), .str (tx t.text), .int (t.row : Int), .int (t.col : Int)] := by
  cases h with
  | @tup a xs ds hs ha =>
    refine ⟨a, rfl, ?_⟩
    cases ha with
    | cons a1 r1 => cases r1 with
      | cons a2 r2 => cases r2 with
        | cons a3 r3 => cases r3 with
          | cons a4 r4 =>
            cases r4
            cases a1
            cases a2
            cases a3
            cases a4
            exact hs
theorem last_tok {H : Hp} {f : Addr} {ts : List Tk.T} {t : Tk.T} (h : LstD K H f ((ts ++ [t]).map tokD)) : ∃ vs q, H f = some (.lst (vs ++ [.ref q])) ∧ SqT K H q [.str (tx t.sort), .str (tx t.text), .int (t.row : Int), .int (t.col : Int)] := by
  obtain ⟨ws, e, r⟩ := h
  rw [List.map_append] at r
  have hl := DpAll.length r
  obtain ⟨v, hv, hd⟩ := DpAll.get (i := ts.length) (d := tokD t) r (by simp)
  obtain ⟨q, rfl, hq⟩ := dp_tok hd
  refine ⟨ws.take ts.length, q, ?_, hq⟩
  rw [e]
  congr 2
  have l2 : ws.length = ts.length + 1 := by simpa using hl
  have e1 : ws = ws.take (ts.length + 1) := (List.take_of_length_le (by omega)).symm
  rw [e1, List.take_add_one, hv, List.take_append_of_le_length (by rw [List.length_take]; omega), List.take_take]
  simp
/-! ### split_of -/
def sp_split_of (K : PySem.W.Frag) : Sp := fun vs H Q _ => ∃ x : List Nat, vs = [.str (tx x)] ∧ x.length ≤ 2000 ∧ (∀ c ∈ x, c < 128) ∧
  ∀ H' p, Same H H' → H p = none → (∀ t ∈ Tk.toksOf x, okT 4000 t) → (Tk.toksOf x).length ≤ 5000000 → LstD K H' p ((Tk.toksOf x).map tokD) → Q (.ref p) H'
theorem linesT_app (E : Tk.T) : ∀ (ls : List (List Nat)) (i : Nat) (acc : List Tk.T), Tk.linesT E i ls acc = (match ls with
    | [] => acc ++ [E]
    | l :: r => if Tk.lastNone (acc ++ Tk.row1 i l 0) then acc ++ Tk.row1 i l 0 else Tk.linesT E (i + 1) r (acc ++ Tk.row1 i l 0))
  | [], _, _ => rfl
  | _ :: _, _, _ => rfl
theorem row1_len (r : Nat) (l : List Nat) : (Tk.row1 r l 0).length ≤ l.length := by
  have : ∀ (n : Nat) (x : List Nat) (c : Nat), (Tk.rowT r n x c).length ≤ x.length := by
    intro n
    induction n with
    | zero => intro x c; simp [Tk.rowT]
    | succ n ih =>
      intro x c
      cases x with
      | nil => simp [Tk.rowT]
      | cons z y =>
        unfold Tk.rowT
        split
        · simp
        · split
          · have := ih y (c + 1)
            simp only [List.length_cons]
            omega
          · split
            · simp
            · have p := Tk.tokAt_pos (z :: y)
              have := ih ((z :: y).drop (Tk.tokAt (z :: y)).2) (c + (Tk.tokAt (z :: y)).2)
              rw [List.length_drop] at this
              simp only [List.length_cons] at *
              omega
  exact this _ _ _
theorem ok_split_of (T : Tx K mg) : FnOk P w K mg base CX0 6 T.f_split_of T.fd_split_of ["text"] (sp_split_of K) := by
  have G_row_tokens := ok_row_tokens (P := P) (w := w) (base := base) T
  have b_row_tokens := T.d_row_tokens.F.binds (ps := ["row", "line"]) fun _ _ _ _ _ _ us hl => match us, hl with | [_, _], _ => rfl
  refine T.d_split_of.F.ok sc_split_of (fun vs H Q E h => ?_) (fun cdv A outer s H vs Q E hr h => ?_)
  · obtain ⟨x, rfl, _⟩ := h
    rfl
  · obtain ⟨x, rfl, hz, ha, k⟩ := h
    have hu := hu_of hr
    have hu64 := hr.units
    refine ⟨_, (pss_cons (ps_par (i := 1) (j := 2) rfl sc_split_of.nd rfl rfl (by decide) rfl rfl (pa_cons (pe_split (pv 0) (pe_lit "\n")) (pa_cons (pe_lst pa_nil) pa_nil)) (by rfl))
      (pss_cons (ps_for PassesOwn.never rfl (pi_enum (by rfl) T.n_enumerate (pa_cons (pv 1) pa_nil)) (pg_tup rfl (pgs_cons (pg_name (i := 3) sc_split_of.nd rfl (Or.inl rfl)) (pgs_cons (pg_name (i := 4) sc_split_of.nd rfl (Or.inl rfl)) pgs_nil))) (pss_cons (ps_expr (pe_bm PySem.F.plainAttrs_list PySem.F.slot_list_extend PySem.F.type_list_extend mt_extend (pv 2) (pa_cons (pe_call G_row_tokens (hr.mono (by decide)) rfl T.d_row_tokens.g T.d_row_tokens.F.kp b_row_tokens .nil pass0 (pa_cons (pv 3) (pa_cons (pv 4) pa_nil))) pa_nil)))
      (pss_one (ps_if (PW.pt (pw_and (pt_cmpR (opNe (K := K) rfl hu64) (pv 2) (pe_lst pa_nil) (nomark _)) (pw_and1 (pt_cmpR (opEq (K := K) rfl hu64) (pe_ix (ixAny (K := K) rfl) (pe_ix (ixAny (K := K) rfl) (pv 2) (pe_un un_neg pe_int) (fun _ _ => rfl)) pe_int (fun _ _ => rfl)) (pe_const T.c_NONE (by rfl)) (nomark _))))) (pss_one (ps_ret (pv 2))) pss_nil))))
      (pss_one (ps_ret (pe_op (opAdd (K := K) rfl) (pv 2) (pe_lst (pa_cons (pe_tup (pa_cons (pe_const T.c_END (by rfl)) (pa_cons (pe_lit "") (pa_cons (pe_op op_sub (pe_callB (caLen (K := K) rfl) (by rfl) T.n_len (by decide +kernel) (pa_cons (pv 1) pa_nil)) pe_int) (pa_cons (pe_callB (caLen (K := K) rfl) (by rfl) T.n_len (by decide +kernel) (pa_cons (pe_ix (ixAny (K := K) rfl) (pv 1) (pe_un un_neg pe_int) (fun _ _ => rfl)) pa_nil)) pa_nil))))) pa_nil))))))), ?_⟩
    tm_at "rd"
    have ecs : cs "\n" = [10] := by decide
    refine ⟨tx x, tx (cs "\n"), rfl, rfl, rfl, ?_, ?_⟩
    · rw [len_tx]
      exact Nat.le_trans (show x.length + 2 ≤ 3000 by omega) (by decide)
    unfold rNewStrs
    rw [ecs, Tk.split_lines]
    intro a na
    tm_at "rd"
    intro f nf
    tm_at "rd"
    have hll := Tk.lines_len x
    have naf : a ≠ f := fun e => by rw [← e, upd_same] at nf; cases nf
    have nf0 : H f = none := (same_new na).free nf
    have hlines : (upd (upd H a (.lst ((Tk.linesOf x).map fun y => V.str (tx y)))) f (.lst [])) a = some (.lst ((Tk.linesOf x).map fun y => V.str (tx y))) := by rw [upd_ne naf, upd_same]
    have okE : okT 4000 (Tk.endOf x) := by
      refine ⟨show ∀ c ∈ Tk.sEnd, c < 128 from by decide, fun c hc => by simp [Tk.endOf] at hc, show Tk.sEnd.length ≤ 7 from by decide, by simp [Tk.endOf], ?_, ?_⟩
      · show (Tk.linesOf x).length - 1 ≤ 4000
        omega
      · show ((Tk.linesOf x).getLast (Tk.linesOf_ne x)).length ≤ 4000
        have := hll.2 _ (List.getLast_mem (Tk.linesOf_ne x))
        omega
    refine ⟨a, (Tk.linesOf x).map fun y => V.str (tx y), rfl, SqL.of hlines, for_it (walk_enum (K := K) (a := a) (xs := (Tk.linesOf x).map fun y => V.str (tx y)))
      (fun i σ H1 => ∃ (acc : List Tk.T) (o1 o2 : Option V), σ = [some (.str (tx x)), some (.ref a), some (.ref f), o1, o2] ∧ Same H H1 ∧ H1 a = some (.lst ((Tk.linesOf x).map fun y => V.str (tx y))) ∧ LstD K H1 f (acc.map tokD) ∧
        (∀ t ∈ acc, okT 4000 t) ∧ acc.length ≤ 2000 * i ∧ Tk.toksOf x = Tk.linesT (Tk.endOf x) i ((Tk.linesOf x).drop i) acc)
      ⟨[], none, none, rfl, (same_new na).trans (same_new nf), hlines, ⟨[], upd_same, .nil⟩, by simp, by simp, rfl⟩ ?_ ?_ ?_⟩
    · rintro i σ H1 _ ⟨_, _, _, _, _, h, _⟩
      exact SqL.of h
    · rintro i y σ H1 H2 hi ⟨acc, o1, o2, rfl, s1, hA, hL, hok, hlen, hT⟩ ⟨q, y1, y2, rfl, hq, rfl, e1, e2⟩
      rw [List.length_map] at hi
      have ey1 : y1 = .int (i : Int) := (Option.some.inj e1).symm
      subst ey1
      obtain ⟨l, hl, rfl⟩ := map_at (show ((Tk.linesOf x).map fun y => V.str (tx y))[i]? = some y2 from e2)
      have hlm : l ∈ Tk.linesOf x := List.mem_of_getElem? hl
      have hll2 := hll.2 l hlm
      refine r_gtup (SqT.of upd_same) rfl ?_
      tm_at "rd"
      have s2 := same_new (o := .tup [.int (i : Int), .str (tx l)]) hq
      obtain ⟨vs, hv, hD⟩ := hL.same s2
      have hvl := LstD.len hv (hL.same s2)
      rw [List.length_map] at hvl
      refine ⟨.inl ⟨rfl, vs, SqL.of hv⟩, ?_⟩
      tm_at "rd"
      refine ⟨i, l, rfl, by omega, fun H3 p s3 hp hpl hLp => ?_⟩
      tm_at "rd"
      obtain ⟨zs, hz2, hDz⟩ := hLp
      have hzl : zs.length = (Tk.row1 i l 0).length := by
        have := DpAll.length hDz
        rwa [List.length_map] at this
      refine ⟨f, p, vs, zs, rfl, rfl, s3 _ _ hv, hz2, Nat.le_trans (show vs.length + zs.length ≤ 5000000 by omega) (by decide), ?_⟩
      have s13 : Same H H3 := (s1.trans s2).trans s3
      have hv3 := s3 _ _ hv
      have hL4 : LstD K (upd H3 f (.lst (vs ++ zs))) f ((acc ++ Tk.row1 i l 0).map tokD) := by
        rw [List.map_append]
        refine LstD.extend hv3 hz2 (LstD.same s3 ⟨vs, hv, hD⟩) ⟨zs, hz2, hDz⟩ ?_
        have := flat_toks (acc ++ Tk.row1 i l 0)
        rwa [List.map_append] at this
      have s4 : Same H (upd H3 f (.lst (vs ++ zs))) := fun b o e => by
        rw [upd_ne (ne_of_none e nf0)]
        exact s13 _ _ e
      have hA4 : (upd H3 f (.lst (vs ++ zs))) a = some (.lst ((Tk.linesOf x).map fun y => V.str (tx y))) := by
        rw [upd_ne naf]
        exact s3 _ _ (s2 _ _ hA)
      have hokr : ∀ t ∈ acc ++ Tk.row1 i l 0, okT 4000 t := fun t ht => by
        rcases List.mem_append.mp ht with h | h
        · exact hok t h
        · exact row_ok 4000 i (by omega) _ l 0 (fun z hz3 => ha z (Tk.lines_mem l hlm hz3)) (by omega) t h
      have hlen' : (acc ++ Tk.row1 i l 0).length ≤ 2000 * (i + 1) := by
        rw [List.length_append]
        omega
      have hTi : Tk.toksOf x = if Tk.lastNone (acc ++ Tk.row1 i l 0) then acc ++ Tk.row1 i l 0 else Tk.linesT (Tk.endOf x) (i + 1) ((Tk.linesOf x).drop (i + 1)) (acc ++ Tk.row1 i l 0) := by
        have e : (Tk.linesOf x).drop i = l :: (Tk.linesOf x).drop (i + 1) := by
          obtain ⟨h1, h2⟩ := List.getElem?_eq_some_iff.mp hl
          rw [← h2]
          exact List.drop_eq_getElem_cons h1
        rw [hT, e]
        rfl
      generalize hacc : acc ++ Tk.row1 i l 0 = acc' at *
      generalize hH4 : upd H3 f (.lst (vs ++ zs)) = H4 at *
      tm_at "rd"
      intro e ne
      refine q_ne_dat (LstD.dp (LstD.same (same_new ne) hL4)) (.lst (SqL.of upd_same) .nil) (toks_shaped _ hokr) (by rfl) ?_
      rw [eqv_nil]
      have s5 := s4.trans (same_new (o := .lst []) ne)
      have hL5 := LstD.same (same_new (o := .lst []) ne) hL4
      have hA5 := same_new (o := .lst []) ne _ _ hA4
      rcases List.eq_nil_or_concat acc' with h0 | ⟨ini, t, h0⟩
      · subst h0
        tm_at "rd"
        exact ⟨[], _, _, rfl, s5, hA5, hL5, hokr, hlen', hTi⟩
      · rw [List.concat_eq_append] at h0
        subst h0
        have e1 : ((ini ++ [t]).map tokD).isEmpty = false := by simp
        rw [e1]
        tm_at "rd"
        obtain ⟨us, q2, hu1, hu2⟩ := last_tok hL5
        refine q_ix_lst (SqL.of hu1) (atI_last _ _) ?_
        tm_at "rd"
        refine q_ix_tup hu2 rfl ?_
        tm_at "rd"
        rw [Tk.lastNone_append] at hTi
        refine bd (fun h8 => ?_) (fun h8 => ?_)
        · rw [decide_eq_true (show t.sort = Tk.sNone from h8), if_pos rfl] at hTi
          tm_at "rd"
          rw [hTi] at k
          exact k _ f s5 nf0 hokr (Nat.le_trans hlen' (by omega)) hL5
        · rw [decide_eq_false (show ¬ t.sort = Tk.sNone from h8), if_neg Bool.false_ne_true] at hTi
          tm_at "rd"
          exact ⟨ini ++ [t], _, _, rfl, s5, hA5, hL5, hokr, hlen', hTi⟩
    · rintro σ H1 ⟨acc, o1, o2, rfl, s1, hA, hL, hok, hlen, hT⟩
      rw [List.length_map, List.drop_length] at hT
      rw [List.length_map] at hlen
      have hT' : Tk.toksOf x = acc ++ [Tk.endOf x] := hT
      tm_at "rd"
      have hne : 1 ≤ (Tk.linesOf x).length := List.length_pos_iff.mpr (Tk.linesOf_ne x)
      refine q_len_lst (SqL.of hA) ?_
      tm_at "rd"
      have elast : ((Tk.linesOf x).map fun y => V.str (tx y)) = ((Tk.linesOf x).dropLast.map fun y => V.str (tx y)) ++ [V.str (tx ((Tk.linesOf x).getLast (Tk.linesOf_ne x)))] := by
        have e := congrArg (List.map fun y => V.str (tx y)) (List.dropLast_concat_getLast (Tk.linesOf_ne x))
        rw [List.map_append] at e
        exact e.symm
      refine q_ix_lst (SqL.of hA) (by rw [elast]; exact atI_last _ _) ?_
      tm_at "rd"
      refine q_len_tx (Nat.le_trans (hll.2 _ (List.getLast_mem (Tk.linesOf_ne x))) (by omega)) ?_
      tm_at "rd"
      intro p np
      tm_at "rd"
      intro q nq
      have erow : (((Tk.linesOf x).map fun y => V.str (tx y)).length : Int) - 1 = ((Tk.endOf x).row : Int) := by
        rw [List.length_map]
        show ((Tk.linesOf x).length : Int) - 1 = (((Tk.linesOf x).length - 1 : Nat) : Int)
        omega
      rw [erow] at nq ⊢
      have e0 : cs "" = [] := by decide
      have n1 : f ≠ p := by
        obtain ⟨us, hu, _⟩ := hL
        exact ne_of_none hu np
      have s2 := same_new (o := .tup [.str (tx (cs "end")), .str (tx (cs "")), .int ((Tk.endOf x).row : Int), .int (((Tk.linesOf x).getLast (Tk.linesOf_ne x)).length : Int)]) np
      have s3 := same_new (o := .lst [V.ref p]) nq
      obtain ⟨us, hu, hD⟩ := LstD.same s3 (LstD.same s2 hL)
      have hul := DpAll.length hD
      rw [List.length_map] at hul
      have hbig : acc.length ≤ 2000 * 2001 := Nat.le_trans hlen (Nat.mul_le_mul_left _ (by omega))
      refine q_add_lst hu upd_same ?_ (fun r nr => ?_)
      · show us.length + 1 ≤ 10000000
        omega
      · have s4 := same_new (o := .lst (us ++ [.ref p])) nr
        have s04 := ((s1.trans s2).trans s3).trans s4
        refine k _ r s04 (((s1.trans s2).trans s3).free nr) ?_ ?_ ?_
        · rw [hT']
          intro t ht
          rcases List.mem_append.mp ht with h | h
          · exact hok t h
          · rw [List.mem_singleton.mp h]
            exact okE
        · rw [hT', List.length_append, List.length_singleton]
          omega
        · rw [hT', List.map_append]
          refine ⟨_, upd_same, DpAll.same s4 (DpAll.app hD (.cons (Dp.same s3 (tok_dp (t := Tk.endOf x) ?_)) .nil))⟩
          rw [upd_same]
          rfl

/-! ### want_text, tokens -/
def sp_want_text : Sp := fun vs H Q _ => ∃ x : List Nat, vs = [.str (tx x)] ∧ x.length ≤ 2000 ∧ Q (.str (tx x)) H
theorem ok_want_text (T : Tx K mg) : FnOk P w K mg base CX0 1 T.f_want_text T.fd_want_text ["value"] sp_want_text := by
  refine T.d_want_text.F.ok sc_want_text (fun vs H Q E h => ?_) (fun cdv A outer s H vs Q E hr h => ?_)
  · obtain ⟨x, rfl, _⟩ := h
    rfl
  · obtain ⟨x, rfl, hz, k⟩ := h
    have hu := hu_of hr
    have hu64 := hr.units
    refine ⟨_, (pss_cons (ps_if (PW.pt (pw_or (pt_not (pt_val (pe_callB (caIsi (K := K) rfl) (by rfl) T.n_isinstance (by decide +kernel) (pa_cons (pv 0) (pa_cons (pe_bltn (v := .ty "str") (u := .type "str") (by rfl) T.n_str (by decide +kernel) rfl) pa_nil))))) (pw_or1 (pt_cmpR op_gt (pe_callB (caLen (K := K) rfl) (by rfl) T.n_len (by decide +kernel) (pa_cons (pv 0) pa_nil)) (pe_const T.c_MOST_SIGNS_tokens (by rfl)) (nomark _))))) (pss_one ps_never) pss_nil)
      (pss_one (ps_ret (pv 0)))), ?_⟩
    tm_at "rd"
    refine bd_f (by omega) ?_
    tm_at "rd"
    exact k
end
end K15

set_option maxHeartbeats 4000000
/-! W15d: tokens, its error. -/
namespace K15
open PySem PySem.Spec PyProof.Rows L2 TL Ak
local macro_rules | `(tactic| tm_at "rd1") => `(tactic| with_reducible first
  | refine r_seq ?_ | refine r_ifS ?_ | refine r_ret ?_ | refine r_asg ?_ | refine r_next ?_ | refine r_drop ?_ | refine r_par ?_ | refine r_brk ?_ | refine r_cont ?_
  | refine r_op ?_ | refine r_c ?_ | refine r_cb ?_ | refine r_cons ?_ | refine r_nil ?_ | refine r_un ?_ | refine r_tB ?_ | refine r_test ?_ | refine r_not ?_ | refine r_and ?_ | refine r_or ?_ | refine r_andV ?_ | refine r_orV ?_ | refine r_notV ?_ | refine r_if ?_ | refine r_chain ?_
  | refine r_tup ?_ | refine r_lst ?_ | refine r_sl ?_ | refine r_part ?_ | refine r_nopart ?_ | refine r_call ?_ | refine r_callK ?_ | refine r_bm ?_ | refine r_bm0 ?_ | refine r_m1 ?_ | refine r_m0 ?_ | refine r_isN ?_ | refine r_notN ?_
  | refine r_gcons ?_ | refine r_gnil ?_ | refine r_gsub ?_ | refine r_name ?_ | refine r_ilist ?_ | refine r_itup ?_ | refine r_istr ?_ | refine r_irng1 ?_ | refine r_ienum ?_ | refine r_mko ?_ | refine r_yes ?_ | refine r_lc ?_ | refine r_for ?_ | refine turn_i ?_
  | refine r_bl ?_ | refine r_int ?_ | refine r_two ?_ | refine r_str ?_ | refine r_two1 ?_
  | refine b_t ?_ | refine b_f ?_ | refine b_nt ?_ | refine b_nf ?_ | refine q_isi_str ?_ | refine q_u ?_ | refine q_i0 ?_ | refine q_ipI ?_ | refine q_add_int ?_ | refine q_eq_int ?_ | refine q_ne_int ?_ | refine q_eq_tx ?_ | refine q_ne_tx ?_ | refine q_in_sg ?_ | refine q_ni_sg ?_)
local macro_rules | `(tactic| tm_at "rd2") => `(tactic| first
  | tm_at "rd1" | refine r_var rfl ?_ | refine r_aug rfl ?_ 
  | refine And.intro (small_n (by simp)) ?_ | tm_at "rdl")
local macro_rules | `(tactic| tm_at "rdl") => `(tactic| first | (with_reducible refine q_len_tx (by assumption) ?_) | (with_reducible refine q_len_tx (by omega) ?_))
local macro_rules | `(tactic| tm_at "rd") => `(tactic| repeat tm_at "rd2")

/-- what the top says of the error's class at C (its __init__ at fi), of its base class at D -/
structure Bx (K : PySem.W.Frag) (mg : Str → Option Value) where
  C : Addr
  D : Addr
  fi : Addr
  fdi : FuncData
  gC : mg "BadText" = some (.ref C)
  gD : mg "TongueError" = some (.ref D)
  F : Fun K "__init__" "BadText.__init__" s_BadText_init fi fdi
  oex : OexC K C
  xf : XfC K C
  exc : ExcC K C
  exm : PySem.W.exmOne K (.ref C) (.ref C) = some true
  sub : PySem.W.kitOne K (.ref C) (.ref D) = some true
  iC : PySem.W.findIn K (.ref C) "__init__" = some (some (.ref fi))
  tI : PySem.W.typeIn K (.ref fi) = some (.type "function")
  nl : PySem.W.findIn K (.ref C) "line" = some none
  nc : PySem.W.findIn K (.ref C) "column" = some none
section
variable {P : Program} {w : World} {K : PySem.W.Frag} {mg : Str → Option Value} {base : Heap}
theorem sc_init : FnScope ["self", "line", "column"] ["self", "line", "column"] (defScope s_BadText_init) := ⟨rfl, rfl, rfl, by decide +kernel, rfl, by decide +kernel, by decide +kernel⟩
def sp_init (K : PySem.W.Frag) : Sp := fun vs H Q _ => ∃ (a C : Addr) (l c : V), vs = [.ref a, l, c] ∧ OexC K C ∧ PySem.W.findIn K (.ref C) "line" = some none ∧ PySem.W.findIn K (.ref C) "column" = some none ∧ H a = some (exo a C none) ∧
  ∀ dx, H dx = none → dx ≠ a → Q .non (upd (upd (upd H dx (exd dx [("line", l)])) a (exo a C (some dx))) dx (exd dx [("column", c), ("line", l)]))
theorem ok_init (B : Bx K mg) : FnOk P w K mg base CX0 1 B.fi B.fdi ["self", "line", "column"] (sp_init K) := by
  refine B.F.ok sc_init (fun vs H Q E h => ?_) (fun cdv A outer s H vs Q E hr h => ?_)
  · obtain ⟨a, C, l, c, rfl, _⟩ := h
    rfl
  · obtain ⟨a, C, l, c, rfl, h1, h2, h3, h4, k⟩ := h
    refine ⟨_, pss_cons (ps_ost (pv 0) (pv 1)) (pss_one (ps_ost (pv 0) (pv 2))), ?_⟩
    refine ⟨_, rfl, _, rfl, a, C, rfl, h1, h2, .inl ⟨h4, fun dx hx nx => ?_⟩⟩
    refine ⟨_, rfl, _, rfl, a, C, rfl, h1, h3, .inr ⟨dx, [("line", l)], upd_same, ?_, (by show 1 ≤ 900; decide), k dx hx nx⟩⟩
    rw [upd_ne nx, upd_same]
/-! ### tokens -/
def sp_tokens (B : Bx K mg) : Sp := fun vs H Q E => ∃ x : List Nat, vs = [.str (tx x)] ∧ x.length ≤ 2000 ∧ (∀ c ∈ x, c < 128) ∧
  (∀ (ts : List Tk.T) (t : Tk.T), Tk.toksOf x = ts ++ [t] → t.sort ≠ Tk.sNone → (∀ t ∈ ts, okT 4000 t) → ts.length ≤ 5000000 → ∀ H' p, Same H H' → H p = none → LstD K H' p (ts.map tokD) → Q (.ref p) H') ∧
  (∀ (ts : List Tk.T) (t : Tk.T), Tk.toksOf x = ts ++ [t] → t.sort = Tk.sNone → okT 4000 t → ∀ H' d, Same H H' → H d = none → H' d = some (.xd [("column", .int (t.col : Int)), ("line", .int (t.row : Int))]) → E (.ref B.C) (some d) H')
theorem linesT_ne (E : Tk.T) : ∀ (ls : List (List Nat)) (i : Nat) (acc : List Tk.T), Tk.linesT E i ls acc ≠ []
  | [], i, acc => by simp [Tk.linesT]
  | l :: ls, i, acc => by
    unfold Tk.linesT
    split
    · rename_i h
      intro z
      rw [z] at h
      cases h
    · exact linesT_ne E ls _ _
theorem toks_last (x : List Nat) : ∃ ts t, Tk.toksOf x = ts ++ [t] := by
  rcases List.eq_nil_or_concat (Tk.toksOf x) with h | ⟨a, b, h⟩
  · exact absurd h (linesT_ne _ _ _ _)
  · exact ⟨a, b, by rw [h, List.concat_eq_append]⟩
theorem ok_tokens (T : Tx K mg) (B : Bx K mg) : FnOk P w K mg base (L2.CX P w) 7 T.f_tokens T.fd_tokens ["text"] (sp_tokens B) := by
  have G_split_of := ok_split_of (P := P) (w := w) (base := base) T
  have G_want_text := ok_want_text (P := P) (w := w) (base := base) T
  have G_init := ok_init (P := P) (w := w) (base := base) B
  have b_split_of := T.d_split_of.F.binds (ps := ["text"]) fun _ _ _ _ _ _ us hl => match us, hl with | [_], _ => rfl
  have b_want_text := T.d_want_text.F.binds (ps := ["value"]) fun _ _ _ _ _ _ us hl => match us, hl with | [_], _ => rfl
  have b_init := B.F.binds (ps := ["self", "line", "column"]) fun _ _ _ _ _ _ us hl => match us, hl with | [_, _, _], _ => rfl
  refine T.d_tokens.F.okX sc_tokens (fun vs H Q E h => ?_) (fun cdv A outer s H vs Q E hr h => ?_)
  · obtain ⟨x, rfl, _⟩ := h
    rfl
  · obtain ⟨x, rfl, hz, ha, k, kE⟩ := h
    have hu := hu_of hr
    have hu64 := hr.units
    refine ⟨_, (pss_cons (ps_set (i := 1) sc_tokens.nd rfl (Or.inl rfl) (pe_call G_split_of (hr.mono (by decide)) rfl T.d_split_of.g T.d_split_of.F.kp b_split_of .nil pass0 (pa_cons (pe_call G_want_text (hr.mono (by decide)) rfl T.d_want_text.g T.d_want_text.F.kp b_want_text .nil pass0 (pa_cons (pv 0) pa_nil)) pa_nil)))
      (pss_cons (ps_if (pt_cmpR (opEq (K := K) rfl hu64) (pe_ix (ixAny (K := K) rfl) (pe_ix (ixAny (K := K) rfl) (pv 1) (pe_un un_neg pe_int) (fun _ _ => rfl)) pe_int (fun _ _ => rfl)) (pe_const T.c_NONE (by rfl)) (nomark _)) (pss_one (ps_raise rfl (takes_of rfl rfl rfl rfl) (pmk_oex B.oex B.iC B.tI G_init (hr.mono (by decide)) b_init .nil pass0 (by rfl) B.gC (pa_cons (pe_ix (ixAny (K := K) rfl) (pe_ix (ixAny (K := K) rfl) (pv 1) (pe_un un_neg pe_int) (fun _ _ => rfl)) pe_int (fun _ _ => rfl)) (pa_cons (pe_ix (ixAny (K := K) rfl) (pe_ix (ixAny (K := K) rfl) (pv 1) (pe_un un_neg pe_int) (fun _ _ => rfl)) pe_int (fun _ _ => rfl)) pa_nil))))) pss_nil)
      (pss_one (ps_ret (pe_slice (slAny (K := K) rfl) (pv 1) po_none (po_some (pe_un un_neg pe_int))))))), ?_⟩
    tm_at "rd"
    refine ⟨x, rfl, hz, ?_⟩
    tm_at "rd"
    refine ⟨x, rfl, hz, ha, fun H1 p s1 hp hok hlen hL => ?_⟩
    tm_at "rd"
    obtain ⟨ts, t, e⟩ := toks_last x
    rw [e] at hL hok hlen
    obtain ⟨us, q, hu1, hu2⟩ := last_tok hL
    refine q_ix_lst (SqL.of hu1) (atI_last _ _) ?_
    tm_at "rd"
    refine q_ix_tup hu2 rfl ?_
    tm_at "rd"
    refine bd (fun h1 => ?_) (fun h1 => ?_)
    · tm_at "rd"
      refine q_ix_lst (SqL.of hu1) (atI_last _ _) ?_
      tm_at "rd"
      refine q_ix_tup hu2 rfl ?_
      tm_at "rd"
      refine q_ix_lst (SqL.of hu1) (atI_last _ _) ?_
      tm_at "rd"
      refine q_ix_tup hu2 rfl ?_
      tm_at "rd"
      refine ⟨by show 2 ≤ 1000; decide, fun b hb => ⟨b, B.C, _, _, rfl, B.oex, B.nl, B.nc, upd_same, fun dx hx nx => ⟨rfl, dx, _, ?_, upd_same, ?_, ?_⟩⟩⟩
      · rw [upd_ne nx.symm, upd_same]
      · have : upd H1 b (exo b B.C none) dx = none := hx
        rwa [upd_ne nx] at this
      · have hdx : H1 dx = none := by
          have : upd H1 b (exo b B.C none) dx = none := hx
          rwa [upd_ne nx] at this
        refine kE ts t e h1 (hok t (by simp)) _ dx (fun c o hc => ?_) (s1.free hdx) upd_same
        have hc1 := s1 c o hc
        have nb : c ≠ b := ne_of_none hc1 hb
        have nd : c ≠ dx := ne_of_none hc1 hdx
        rw [upd_ne nd, del_ne nb, upd_ne nd, upd_ne nb, upd_ne nd, upd_ne nb]
        exact hc1
    · tm_at "rd"
      refine q_cutlast (SqL.of hu1) (fun b hb => ?_)
      refine k ts t e h1 (fun t ht => hok t (List.mem_append_left _ ht)) (by rw [List.length_append] at hlen; omega) _ b (s1.trans (same_new hb)) (s1.free hb) ?_
      obtain ⟨ws, hw, hD⟩ := hL
      rw [hu1] at hw
      cases hw
      refine ⟨us, ?_, ?_⟩
      · rw [upd_same, List.dropLast_concat]
      · rw [List.map_append] at hD
        have hl := DpAll.length hD
        simp only [List.length_append, List.length_map, List.length_singleton, List.map_cons, List.map_nil] at hl
        have := DpAll.take ts.length hD
        rw [List.take_append_of_le_length (by omega), List.take_of_length_le (by omega), List.take_append_of_le_length (by simp), List.take_of_length_le (by simp)] at this
        exact DpAll.same (same_new hb) this
end
end K15

set_option maxHeartbeats 4000000
/-! W15s: how long tokens show. -/
namespace K15
open PySem PySem.Spec PyProof.Rows L2 TL Ak
theorem lt_ok {m : Nat} (E : Tk.T) (hE : okT m E) : ∀ (ls : List (List Nat)) (i : Nat) (acc : List Tk.T), (∀ l ∈ ls, (∀ c ∈ l, c < 128) ∧ l.length ≤ m) → i + ls.length ≤ m + 1 → (∀ t ∈ acc, okT m t) →
    (∀ t ∈ Tk.linesT E i ls acc, okT m t) ∧ (Tk.linesT E i ls acc).length ≤ acc.length + (ls.map List.length).sum + 1
  | [], i, acc, _, _, ha => by
    refine ⟨fun t ht => ?_, by simp [Tk.linesT]⟩
    rcases List.mem_append.mp (show t ∈ acc ++ [E] from ht) with h | h
    · exact ha t h
    · rw [List.mem_singleton.mp h]
      exact hE
  | l :: ls, i, acc, hl, hi, ha => by
    simp only [List.length_cons] at hi
    have h0 := hl l List.mem_cons_self
    have hrow : ∀ t ∈ acc ++ Tk.row1 i l 0, okT m t := fun t ht => by
      rcases List.mem_append.mp ht with h | h
      · exact ha t h
      · exact row_ok m i (by omega) _ l 0 h0.1 (by omega) t h
    have hr := row1_len i l
    have hlen : (acc ++ Tk.row1 i l 0).length ≤ acc.length + l.length := by rw [List.length_append]; omega
    obtain ⟨h1, h2⟩ := lt_ok E hE ls (i + 1) (acc ++ Tk.row1 i l 0) (fun y hy => hl y (List.mem_cons_of_mem _ hy)) (by omega) hrow
    unfold Tk.linesT
    simp only [List.map_cons, List.sum_cons]
    split
    · exact ⟨hrow, by omega⟩
    · exact ⟨h1, by omega⟩
theorem lines_sum : ∀ x : List Nat, ((Tk.linesOf x).map List.length).sum ≤ x.length
  | [] => by simp [Tk.linesOf]
  | c :: r => by
    have ih := lines_sum r
    obtain ⟨l, ls, b, h1, _⟩ := Tk.first_line r
    rw [h1] at ih
    simp only [List.map_cons, List.sum_cons] at ih
    by_cases hc : c = 10
    · subst hc
      have e : Tk.linesOf (10 :: r) = [] :: l :: ls := by simp [Tk.linesOf, h1]
      rw [e]
      simp only [List.map_cons, List.sum_cons, List.length_nil, List.length_cons]
      omega
    · have e : Tk.linesOf (c :: r) = (c :: l) :: ls := by
        unfold Tk.linesOf
        rw [if_neg hc, h1]
      rw [e]
      simp only [List.map_cons, List.sum_cons, List.length_cons]
      omega
theorem toks_ok {m : Nat} (x : List Nat) (ha : ∀ c ∈ x, c < 128) (hm : x.length ≤ m) : (∀ t ∈ Tk.toksOf x, okT m t) ∧ (Tk.toksOf x).length ≤ m + 1 := by
  have hll := Tk.lines_len x
  have hs := lines_sum x
  have hE : okT m (Tk.endOf x) := by
    refine ⟨show ∀ c ∈ Tk.sEnd, c < 128 from by decide, fun c hc => by simp [Tk.endOf] at hc, show Tk.sEnd.length ≤ 7 from by decide, by simp [Tk.endOf], ?_, ?_⟩
    · show (Tk.linesOf x).length - 1 ≤ m
      omega
    · show ((Tk.linesOf x).getLast (Tk.linesOf_ne x)).length ≤ m
      have := hll.2 _ (List.getLast_mem (Tk.linesOf_ne x))
      omega
  obtain ⟨h1, h2⟩ := lt_ok (Tk.endOf x) hE (Tk.linesOf x) 0 [] (fun l hl => ⟨fun c hc => ha c (Tk.lines_mem l hl hc), Nat.le_trans (hll.2 l hl) hm⟩) (by omega) (by simp)
  refine ⟨h1, ?_⟩
  have : (Tk.toksOf x).length ≤ ([] : List Tk.T).length + ((Tk.linesOf x).map List.length).sum + 1 := h2
  simp only [List.length_nil] at this
  omega
theorem small_int {n : Nat} (h : n ≤ 500) : (if (n : Int) == 0 then 0 else (n : Int).natAbs.log2 + 1) ≤ 9 ∧ ((PyData.int (n : Int)).shown).length ≤ 13 ∧ (PyData.int (n : Int)).showable = true := by
  have e : (n : Int).natAbs = n := rfl
  have hl : n ≠ 0 → n.log2 < 9 := fun h0 => (Nat.log2_lt h0).mpr (by omega)
  refine ⟨?_, ?_, ?_⟩
  · by_cases h0 : n = 0
    · subst h0
      decide
    · have := hl h0
      rw [e]
      split <;> omega
  · have h1 : (toString (n : Int)).length ≤ 3 + 1 := int_text_length_le10 (k := 3) (by decide) (by rw [e]; omega)
    have e2 : ((PyData.int (n : Int)).shown).length = (toString (n : Int)).length := by
      simp only [PyData.shown]
      exact PySem.ofString_length _
    omega
  · simp only [PyData.showable, decide_eq_true_eq, e]
    by_cases h0 : n = 0
    · subst h0
      decide
    · have := hl h0
      omega
/-- data that repr may be asked of -/
structure Shows (d : PyData) (w : Nat) : Prop where
  lay : PyData.canLay0 d = true
  deep : PyData.depth d ≤ 3
  weigh : PyData.weight d ≤ w
  short : PyData.intsShort 13 d = true
  show_ : PyData.showable d = true
  nodict : PyData.hasDict d = false
theorem Shows.repr {K : PySem.W.Frag} {H : Hp} {Q : VK} {v : V} {d : PyData} {w : Nat} (h : Shows d w) (hw : w ≤ 1000000) (hv : Dp K H v d) (q : Q (.str d.shown) H) : rRepr K [v] H Q := by
  have e : (2 : Nat) ^ 20 = 1048576 := by decide
  refine ⟨v, d, rfl, hv, h.show_, h.nodict, Nat.le_trans h.deep (by decide), ?_, q⟩
  refine Nat.le_trans (shown_le13 (d := d) ?_ h.short) (by decide)
  show (PyData.canLay0 d && decide (PyData.depth d ≤ 64) && decide (PyData.weight d ≤ 2 ^ 20)) = true
  have := h.deep
  have := h.weigh
  simp only [Bool.and_eq_true, decide_eq_true_eq]
  exact ⟨⟨h.lay, by omega⟩, by omega⟩
theorem tok_shows {t : Tk.T} (h : okT 500 t) : Shows (tokD t) 529 ∧ PyData.depth (tokD t) ≤ 1 := by
  obtain ⟨h1, h2, h3, h4, h5, h6⟩ := h
  obtain ⟨a1, a2, a3⟩ := small_int h5
  obtain ⟨b1, b2, b3⟩ := small_int h6
  have e : PyData.depth (tokD t) = 1 := by simp [tokD, PyData.depth, PyData.depthAll]
  refine ⟨⟨tokD_ok h1 h2, by omega, ?_, ?_, ?_, ?_⟩, by omega⟩
  · show PyData.weight (.tuple [.str (tx t.sort), .str (tx t.text), .int (t.row : Int), .int (t.col : Int)]) ≤ 529
    have e1 : (tx t.sort).cps.size = t.sort.length := by simp
    have e2 : (tx t.text).cps.size = t.text.length := by simp
    simp only [PyData.weight, PyData.weightAll, e1, e2]
    omega
  · simp only [tokD, PyData.intsShort, PyData.intsShortAll, Bool.and_true, Bool.true_and, Bool.and_eq_true, decide_eq_true_eq]
    exact ⟨a2, b2⟩
  · simp only [tokD, PyData.showable, PyData.showableAll, Bool.and_true, Bool.true_and]
    simp only [PyData.showable] at a3 b3
    rw [a3, b3]
    rfl
  · simp [tokD, PyData.hasDict, PyData.hasDictAll]
theorem toks_shows {m : Nat} (hm : m ≤ 500) : ∀ (ts : List Tk.T), (∀ t ∈ ts, okT m t) → Shows (.list (ts.map tokD)) (530 * ts.length) ∧ PyData.depth (.list (ts.map tokD)) ≤ 2 := by
  have up : ∀ t, okT m t → okT 500 t := fun t ⟨h1, h2, h3, h4, h5, h6⟩ => ⟨h1, h2, h3, by omega, by omega, by omega⟩
  have core : ∀ ts : List Tk.T, (∀ t ∈ ts, okT m t) → PyData.canLayAll0 (ts.map tokD) = true ∧ PyData.depthAll (ts.map tokD) ≤ 1 ∧ PyData.weightAll (ts.map tokD) ≤ 530 * ts.length ∧ PyData.intsShortAll 13 (ts.map tokD) = true ∧ PyData.showableAll (ts.map tokD) = true ∧ PyData.hasDictAll (ts.map tokD) = false := by
    intro ts
    induction ts with
    | nil => intro _; simp [PyData.canLayAll0, PyData.depthAll, PyData.weightAll, PyData.intsShortAll, PyData.showableAll, PyData.hasDictAll]
    | cons t ts ih =>
      intro h
      obtain ⟨i1, i2, i3, i4, i5, i6⟩ := ih fun q hq => h q (List.mem_cons_of_mem _ hq)
      obtain ⟨s, sd⟩ := tok_shows (up t (h t List.mem_cons_self))
      have sw := s.weigh
      simp only [List.map_cons, PyData.canLayAll0, PyData.depthAll, PyData.weightAll, PyData.intsShortAll, PyData.showableAll, PyData.hasDictAll, i1, i4, i5, i6, s.lay, s.short, s.show_, s.nodict, Bool.and_self, Bool.or_self, List.length_cons]
      refine ⟨trivial, by omega, by omega, trivial, trivial, trivial⟩
  intro ts h
  obtain ⟨i1, i2, i3, i4, i5, i6⟩ := core ts h
  refine ⟨⟨by simp only [PyData.canLay0]; exact i1, ?_, by simp only [PyData.weight]; exact i3, by simp only [PyData.intsShort]; exact i4, by simp only [PyData.showable]; exact i5, by simp only [PyData.hasDict]; exact i6⟩, ?_⟩
  · simp only [PyData.depth]
    omega
  · simp only [PyData.depth]
    omega
theorem two_shows {a b : PyData} {w : Nat} (ha : Shows a w) (hb : Shows b w) (da : PyData.depth a ≤ 2) (db : PyData.depth b ≤ 2) : Shows (.list [a, b]) (2 * w + 2) := by
  have := ha.weigh
  have := hb.weigh
  refine ⟨?_, ?_, ?_, ?_, ?_, ?_⟩
  · simp only [PyData.canLay0, PyData.canLayAll0, ha.lay, hb.lay, Bool.and_self]
  · simp only [PyData.depth, PyData.depthAll]
    omega
  · simp only [PyData.weight, PyData.weightAll]
    omega
  · simp only [PyData.intsShort, PyData.intsShortAll, ha.short, hb.short, Bool.and_self]
  · simp only [PyData.showable, PyData.showableAll, ha.show_, hb.show_, Bool.and_self]
  · simp only [PyData.hasDict, PyData.hasDictAll, ha.nodict, hb.nodict, Bool.or_self]
def placeD (r c : Nat) : PyData := .list [.int (r : Int), .int (c : Int), .bool true]
theorem place_shows {r c : Nat} (hr : r ≤ 500) (hc : c ≤ 500) : Shows (placeD r c) 22 := by
  obtain ⟨a1, a2, a3⟩ := small_int hr
  obtain ⟨b1, b2, b3⟩ := small_int hc
  refine ⟨rfl, ?_, ?_, ?_, ?_, rfl⟩
  · simp [placeD, PyData.depth, PyData.depthAll]
  · show PyData.weight (.list [.int (r : Int), .int (c : Int), .bool true]) ≤ 22
    simp only [PyData.weight, PyData.weightAll]
    omega
  · simp only [placeD, PyData.intsShort, PyData.intsShortAll, Bool.and_true, Bool.true_and, Bool.and_eq_true, decide_eq_true_eq]
    exact ⟨a2, b2⟩
  · simp only [placeD, PyData.showable, PyData.showableAll, Bool.and_true, Bool.true_and]
    simp only [PyData.showable] at a3 b3
    rw [a3, b3]
    rfl
end K15

set_option maxHeartbeats 4000000
/-! W15e: the law's draws. -/
namespace K15
open PySem PySem.Spec PyProof.Rows L2 TL Ak
local macro_rules | `(tactic| tm_at "rd1") => `(tactic| with_reducible first
  | refine r_seq ?_ | refine r_ifS ?_ | refine r_ret ?_ | refine r_asg ?_ | refine r_next ?_ | refine r_drop ?_ | refine r_par ?_ | refine r_brk ?_ | refine r_cont ?_
  | refine r_op ?_ | refine r_c ?_ | refine r_cb ?_ | refine r_cons ?_ | refine r_nil ?_ | refine r_un ?_ | refine r_tB ?_ | refine r_test ?_ | refine r_not ?_ | refine r_and ?_ | refine r_or ?_ | refine r_andV ?_ | refine r_orV ?_ | refine r_notV ?_ | refine r_if ?_ | refine r_chain ?_
  | refine r_tup ?_ | refine r_lst ?_ | refine r_sl ?_ | refine r_part ?_ | refine r_nopart ?_ | refine r_call ?_ | refine r_callK ?_ | refine r_bm ?_ | refine r_bm0 ?_ | refine r_m1 ?_ | refine r_m0 ?_ | refine r_isN ?_ | refine r_notN ?_
  | refine r_gcons ?_ | refine r_gnil ?_ | refine r_gsub ?_ | refine r_name ?_ | refine r_ilist ?_ | refine r_itup ?_ | refine r_istr ?_ | refine r_irng1 ?_ | refine r_ienum ?_ | refine r_mko ?_ | refine r_yes ?_ | refine r_lc ?_ | refine r_for ?_ | refine turn_i ?_
  | refine r_bl ?_ | refine r_int ?_ | refine r_two ?_ | refine r_str ?_ | refine r_two1 ?_
  | refine b_t ?_ | refine b_f ?_ | refine b_nt ?_ | refine b_nf ?_ | refine q_isi_str ?_ | refine q_u ?_ | refine q_i0 ?_ | refine q_ipI ?_ | refine q_add_int ?_ | refine q_eq_int ?_ | refine q_ne_int ?_ | refine q_eq_tx ?_ | refine q_ne_tx ?_ | refine q_in_sg ?_ | refine q_ni_sg ?_)
local macro_rules | `(tactic| tm_at "rd2") => `(tactic| first
  | tm_at "rd1" | refine r_var rfl ?_ | refine r_aug rfl ?_ 
  | refine And.intro (small_n (by simp)) ?_ | tm_at "rdl")
local macro_rules | `(tactic| tm_at "rdl") => `(tactic| first | (with_reducible refine q_len_tx (by assumption) ?_) | (with_reducible refine q_len_tx (by omega) ?_))
local macro_rules | `(tactic| tm_at "rd") => `(tactic| repeat tm_at "rd2")

/-- the pot at p, its cells at c -/
def Pot (H : Hp) (p c : Addr) : Prop := ∃ (cells : List Int) (cur seed : Int), H p = some (.lst [.ref c, .int cur, .int seed]) ∧ H c = some (.lst (cells.map V.int)) ∧ cells.length ≤ 63 ∧ (∀ z ∈ cells, 0 ≤ z) ∧ 0 ≤ cur ∧ 0 ≤ seed ∧ seed < 2147483648 ∧ p ≠ c
/-- all but the pot is as it was -/
def PS2 (p c : Addr) (H H' : Hp) : Prop := ∀ b o, H b = some o → b ≠ p → b ≠ c → H' b = some o
theorem PS2.refl {p c : Addr} (H : Hp) : PS2 p c H H := fun _ _ h _ _ => h
theorem PS2.trans {p c : Addr} {H H1 H2 : Hp} (a : PS2 p c H H1) (b : PS2 p c H1 H2) : PS2 p c H H2 := fun x o h n m => b x o (a x o h n m) n m
theorem PS2.of {p c : Addr} {H H' : Hp} (s : Same H H') : PS2 p c H H' := fun b o h _ _ => s b o h
theorem PS2.seq {K : PySem.W.Frag} {p c a : Addr} {H H' : Hp} {xs : List V} (s : PS2 p c H H') (np : a ≠ p) (nc : a ≠ c) (h : SqL K H a xs) : SqL K H' a xs := by
  rcases h with (h | ⟨o, h⟩) | h
  · exact .inl (.inl (s _ _ h np nc))
  · exact .inl (.inr ⟨o, s _ _ h np nc⟩)
  · exact .inr h
theorem PS2.updP {p c : Addr} {H : Hp} {o : HO} : PS2 p c H (upd H p o) := fun b u e n _ => by rw [upd_ne n]; exact e
theorem PS2.updC {p c : Addr} {H : Hp} {o : HO} : PS2 p c H (upd H c o) := fun b u e _ n => by rw [upd_ne n]; exact e
theorem Pot.same {p c : Addr} {H H' : Hp} (s : Same H H') (h : Pot H p c) : Pot H' p c := by
  obtain ⟨cells, cur, seed, h1, h2, r⟩ := h
  exact ⟨cells, cur, seed, s _ _ h1, s _ _ h2, r⟩
theorem Pot.ne {p c a : Addr} {H : Hp} (h : Pot H p c) (ha : H a = none) : a ≠ p ∧ a ≠ c := by
  obtain ⟨cells, cur, seed, h1, h2, r⟩ := h
  exact ⟨fun e => by (rw [e, h1] at ha; cases ha), fun e => by (rw [e, h2] at ha; cases ha)⟩
theorem shaped_ints (l : List Int) : SeqAt.shaped (.list (l.map PyData.int)) = true := by
  have a : ∀ l : List Int, PyData.canLayAll0 (l.map PyData.int) = true := by
    intro l
    induction l with
    | nil => rfl
    | cons x l ih => show (PyData.canLay0 (.int x) && PyData.canLayAll0 (l.map PyData.int)) = true; rw [ih]; rfl
  have b : ∀ l : List Int, PyData.depthAll (l.map PyData.int) = 0 := by
    intro l
    induction l with
    | nil => simp [PyData.depthAll]
    | cons x l ih => show PyData.depthAll (PyData.int x :: l.map PyData.int) = 0; simp [PyData.depthAll, PyData.depth, ih]
  unfold SeqAt.shaped
  simp [PyData.canLay0, PyData.depth, a, b]
theorem dp_ints {K : PySem.W.Frag} {H : Hp} {a : Addr} {l : List Int} (h : SqL K H a (l.map V.int)) : Dp K H (.ref a) (.list (l.map PyData.int)) := by
  have : ∀ l : List Int, DpAll K H (l.map V.int) (l.map PyData.int) := by
    intro l
    induction l with
    | nil => exact .nil
    | cons x l ih => exact .cons (.int x) ih
  exact .lst h (this l)
section
variable {P : Program} {w : World} {K : PySem.W.Frag} {mg : Str → Option Value} {base : Heap}
/-! ### the pot -/
def sp_pot (K : PySem.W.Frag) : Sp := fun vs H Q _ => ∃ (a : Addr) (ns : List Int), vs = [.ref a] ∧ SqL K H a (ns.map V.int) ∧ ns.length ≤ 63 ∧ ∀ H' p c, Same H H' → Pot H' p c → H p = none → H c = none → Q (.ref p) H'
theorem ok_pot (T : Tx K mg) : FnOk P w K mg base CX0 1 T.f__law_pot T.fd__law_pot ["script"] (sp_pot K) := by
  refine T.d__law_pot.F.ok sc__law_pot (fun vs H Q E h => ?_) (fun cdv A outer s H vs Q E hr h => ?_)
  · obtain ⟨a, ns, rfl, _⟩ := h
    rfl
  · obtain ⟨a, ns, rfl, hS, hn, k⟩ := h
    have hu := hu_of hr
    have hu64 := hr.units
    refine ⟨_, (pss_cons (ps_setLc (i := 1) (own := [("cell", 2)]) (g := gName 2) rfl sc__law_pot.nd rfl rfl (sw_true rfl rfl rfl (by decide +kernel)) (pi_list (pv 0)) (blkOk_by (own := [("cell", 2)]) (N := nm__law_pot) (sc := defScope s__law_pot) (by decide +kernel)) (fun _ _ _ _ _ => pg_name (i := 2) sc__law_pot.nd rfl (Or.inl rfl)) (fun _ _ _ _ _ => pts_nil) (fun _ _ _ _ _ => (pe_callB call_abs (by rfl) T.n_abs (by decide +kernel) (pa_cons (pv 2) pa_nil))))
      (pss_one (ps_ret (pe_lst (pa_cons (pv 1) (pa_cons pe_int (pa_cons (pe_op (opAdd (K := K) rfl) (pe_op op_mod (pe_callTy call_int1 (by rfl) T.n_int (by decide +kernel) (pa_cons (pe_op (opAdd (K := K) rfl) (pe_callB (caSum (K := K) rfl rfl) (by rfl) T.n_sum (by decide +kernel) (pa_cons (pv 1) pa_nil)) pe_int) pa_nil)) pe_int) pe_int) pa_nil))))))), ?_⟩
    tm_at "rd"
    refine ⟨a, rfl, ⟨_, hS⟩, fun c hc => ?_⟩
    refine lc_seq (walk_list (K := K) (a := a) (xs := ns.map V.int)) (fun _ => true) (fun x => match x with | .int i => .int (if i < 0 then -i else i) | v => v) (by rw [List.length_map]; exact Nat.lt_of_le_of_lt hn (by decide)) (fun H2 s2 => s2.seq hS) (fun x _ H2 Q2 s2 q => q) (fun x hx _ H2 Q2 s2 q => ?_) hc ?_
    · obtain ⟨i, _, rfl⟩ := List.mem_map.mp hx
      tm_at "rd"
      exact ⟨i, rfl, q⟩
    · have e : (List.map (fun x => match x with | .int i => V.int (if i < 0 then -i else i) | v => v) ((ns.map V.int).filter fun _ => true)) = (ns.map fun i => if i < 0 then -i else i).map V.int := by
        rw [filt_all, List.map_map, List.map_map]
        rfl
      rw [e]
      tm_at "rd"
      refine ⟨c, _, rfl, SqL.of upd_same, ?_⟩
      tm_at "rd"
      refine .inl ⟨_, rfl, ?_⟩
      tm_at "rd"
      refine q_rI (show (0 : Int) < 2147483549 by decide) ?_
      tm_at "rd"
      intro p hp
      have hpc : p ≠ c := fun e => by
        rw [e, upd_same] at hp
        cases hp
      have hp0 : H p = none := by rwa [upd_ne hpc] at hp
      refine k _ p c ((same_new hc).trans (same_new hp)) ⟨ns.map fun i => if i < 0 then -i else i, 0, _, upd_same, ?_, by rw [List.length_map]; exact hn, ?_, Int.le_refl _, ?_, ?_, hpc⟩ hp0 hc
      · rw [upd_ne hpc.symm, upd_same]
      · intro z hz
        obtain ⟨i, _, rfl⟩ := List.mem_map.mp hz
        show (0 : Int) ≤ if i < 0 then -i else i
        split <;> omega
      · have := Int.emod_nonneg ((ns.map fun i => if i < 0 then -i else i).sum + 71) (show (2147483549 : Int) ≠ 0 by decide)
        omega
      · have := Int.emod_lt_of_pos ((ns.map fun i => if i < 0 then -i else i).sum + 71) (show (0 : Int) < 2147483549 by decide)
        omega
/-! ### a draw -/
def sp_draw : Sp := fun vs H Q _ => ∃ (p c : Addr) (m : Int), vs = [.ref p, .int m] ∧ Pot H p c ∧ 0 < m ∧ m < 1073741824 ∧ ∀ H' r, Pot H' p c → PS2 p c H H' → 0 ≤ r → r < m → Q (.int r) H'
theorem eqv_nil' (ds : List PyData) : PyData.eqv (.list ds) (.list []) = ds.isEmpty := by
  cases ds <;> simp [PyData.eqv, PyData.eqvAll]
theorem ok_draw (T : Tx K mg) : FnOk P w K mg base CX0 1 T.f__law_draw T.fd__law_draw ["pot", "many"] sp_draw := by
  refine T.d__law_draw.F.ok sc__law_draw (fun vs H Q E h => ?_) (fun cdv A outer s H vs Q E hr h => ?_)
  · obtain ⟨p, c, m, rfl, _⟩ := h
    rfl
  · obtain ⟨p, c, m, rfl, hP, hm1, hm2, k⟩ := h
    have hu := hu_of hr
    have hu64 := hr.units
    refine ⟨_, (C8.pss_cut (ps_if (PW.pt (pw_and (pt_cmpR (opEq (K := K) rfl hu64) (pe_ix (ixAny (K := K) rfl) (pv 0) pe_int (fun _ _ => rfl)) pe_int (nomark _)) (pw_and1 (pt_cmpR (opNe (K := K) rfl hu64) (pe_ix (ixAny (K := K) rfl) (pv 0) pe_int (fun _ _ => rfl)) (pe_lst pa_nil) (nomark _))))) (pss_one (ps_asg (pe_bm PySem.F.plainAttrs_list PySem.F.slot_list_pop PySem.F.type_list_pop mt_popAt (pe_ix (ixAny (K := K) rfl) (pv 0) pe_int (fun _ _ => rfl)) (pa_cons pe_int pa_nil)) (pg_sub (pv 0) pe_int set_list))) pss_nil)
      (pss_cons (ps_if (pt_cmpR op_gt (pe_ix (ixAny (K := K) rfl) (pv 0) pe_int (fun _ _ => rfl)) pe_int (nomark _)) (pss_cons (ps_asg (pe_callB call_divmod (by rfl) T.n_divmod (by decide +kernel) (pa_cons (pe_ix (ixAny (K := K) rfl) (pv 0) pe_int (fun _ _ => rfl)) (pa_cons (pv 1) pa_nil))) (pg_tup rfl (pgs_cons (pg_sub (pv 0) pe_int set_list) (pgs_cons (pg_name (i := 2) sc__law_draw.nd rfl (Or.inl rfl)) pgs_nil))))
      (pss_one (ps_ret (pv 2)))) pss_nil)
      (pss_cons (ps_asg (pe_op op_mod (pe_callTy call_int1 (by rfl) T.n_int (by decide +kernel) (pa_cons (pe_op (opAdd (K := K) rfl) (pe_op opMul (pe_ix (ixAny (K := K) rfl) (pv 0) pe_int (fun _ _ => rfl)) pe_int) pe_int) pa_nil)) pe_int) (pg_sub (pv 0) pe_int set_list))
      (pss_one (ps_ret (pe_op op_mod (pe_callTy call_int1 (by rfl) T.n_int (by decide +kernel) (pa_cons (pe_op op_fdiv (pe_op op_mod (pe_callTy call_int1 (by rfl) T.n_int (by decide +kernel) (pa_cons (pe_op opMul (pe_ix (ixAny (K := K) rfl) (pv 0) pe_int (fun _ _ => rfl)) (pe_ix (ixAny (K := K) rfl) (pv 0) pe_int (fun _ _ => rfl))) pa_nil)) pe_int) pe_int) pa_nil)) (pv 1))))))), ?_⟩
    refine ⟨fun σ H1 => σ = [some (.ref p), some (.int m), none] ∧ Pot H1 p c ∧ PS2 p c H H1, ?_, ?_⟩
    · obtain ⟨cells, cur, seed, h1, h2, h3, h4, h5, h6, h7, h8⟩ := id hP
      tm_at "rd"
      refine q_ix_lst (SqL.of h1) (v := .int cur) rfl ?_
      tm_at "rd"
      refine bd (fun c1 => ?_) (fun c1 => ?_)
      · tm_at "rd"
        refine q_ix_lst (SqL.of h1) (v := .ref c) rfl ?_
        tm_at "rd"
        intro e ne
        have s1 := same_new (o := .lst []) ne
        refine q_ne_dat (dp_ints (s1.seq (SqL.of h2))) (.lst (SqL.of upd_same) .nil) (shaped_ints _) (by rfl) ?_
        rw [eqv_nil']
        tm_at "rd"
        cases cells with
        | nil =>
          tm_at "rd"
          exact ⟨rfl, hP.same s1, .of s1⟩
        | cons z r =>
          show if (!false) = true then _ else _
          tm_at "rd"
          refine q_ix_lst (SqL.of (s1 _ _ h1)) (v := .ref c) rfl ?_
          refine ⟨.inl ⟨rfl, _, SqL.of (s1 _ _ h2)⟩, ?_⟩
          tm_at "rd"
          refine ⟨c, _, 0, 0, .int z, rfl, rfl, s1 _ _ h2, by decide, by decide, seqIndex_of (Int.le_refl 0) (by simp), rfl, ?_⟩
          tm_at "rd"
          have n1 : p ≠ c := h8
          refine ⟨p, [.ref c, .int cur, .int seed], 1, 1, rfl, rfl, by rw [upd_ne n1]; exact s1 _ _ h1, by rfl, ?_⟩
          refine ⟨rfl, ⟨r, z, seed, upd_same, ?_, by simp at h3; omega, fun x hx => h4 x (List.mem_cons_of_mem _ hx), h4 z List.mem_cons_self, h6, h7, h8⟩, ?_⟩
          · rw [upd_ne n1.symm, upd_same]
            rfl
          · exact ((PS2.of s1).trans .updC).trans .updP
      · tm_at "rd"
        exact ⟨rfl, hP, .refl _⟩
    · rintro σ H1 ⟨rfl, hP1, s1⟩
      obtain ⟨cells, cur, seed, h1, h2, h3, h4, h5, h6, h7, h8⟩ := id hP1
      tm_at "rd"
      refine q_ix_lst (SqL.of h1) (v := .int cur) rfl ?_
      tm_at "rd"
      refine bd (fun c1 => ?_) (fun c1 => ?_)
      · tm_at "rd"
        refine q_ix_lst (SqL.of h1) (v := .int cur) rfl ?_
        tm_at "rd"
        refine ⟨cur, m, rfl, ⟨hm1, hm2⟩, fun q nq => ?_⟩
        have s2 := same_new (o := .tup [.int (cur / m), .int (cur % m)]) nq
        refine r_gtup (SqT.of upd_same) rfl ?_
        tm_at "rd"
        refine ⟨p, [.ref c, .int cur, .int seed], 1, 1, rfl, rfl, s2 _ _ h1, by rfl, ?_⟩
        tm_at "rd"
        refine k _ (cur % m) ⟨cells, cur / m, seed, upd_same, ?_, h3, h4, Int.ediv_nonneg h5 (by omega), h6, h7, h8⟩ ((s1.trans (.of s2)).trans .updP) (Int.emod_nonneg _ (by omega)) (Int.emod_lt_of_pos _ hm1)
        rw [upd_ne (Ne.symm h8)]
        exact s2 _ _ h2
      · tm_at "rd"
        refine q_ix_lst (SqL.of h1) (v := .int seed) rfl ?_
        tm_at "rd"
        refine q_mulI (by omega) (by omega) ?_
        tm_at "rd"
        refine .inl ⟨_, rfl, ?_⟩
        tm_at "rd"
        refine q_rI (show (0 : Int) < 2147483563 by decide) ?_
        tm_at "rd"
        refine ⟨p, [.ref c, .int cur, .int seed], 2, 2, rfl, rfl, h1, by rfl, ?_⟩
        have p1 := Int.emod_nonneg (seed * 40692 + 1949) (show (2147483563 : Int) ≠ 0 by decide)
        have p2 := Int.emod_lt_of_pos (seed * 40692 + 1949) (show (0 : Int) < 2147483563 by decide)
        generalize (seed * 40692 + 1949) % 2147483563 = sd at *
        have hP2 : Pot (upd H1 p (.lst ([.ref c, .int cur, .int seed].set 2 (.int sd)))) p c := ⟨cells, cur, sd, upd_same, by rw [upd_ne (Ne.symm h8)]; exact h2, h3, h4, h5, p1, by omega, h8⟩
        have s2 : PS2 p c H (upd H1 p (.lst ([.ref c, .int cur, .int seed].set 2 (.int sd)))) := s1.trans .updP
        tm_at "rd"
        refine q_ix_lst (SqL.of upd_same) (v := .int sd) rfl ?_
        tm_at "rd"
        refine q_ix_lst (SqL.of upd_same) (v := .int sd) rfl ?_
        tm_at "rd"
        refine q_mulI (by omega) (by omega) ?_
        tm_at "rd"
        refine .inl ⟨_, rfl, ?_⟩
        tm_at "rd"
        refine q_rI (show (0 : Int) < 2147483549 by decide) ?_
        tm_at "rd"
        refine q_rI (show CDiv _ 19 from ⟨by decide, by decide⟩) ?_
        tm_at "rd"
        refine .inl ⟨_, rfl, ?_⟩
        tm_at "rd"
        refine q_rI (show (0 : Int) < m from hm1) ?_
        exact k _ _ hP2 s2 (Int.emod_nonneg _ (by omega)) (Int.emod_lt_of_pos _ hm1)
/-! ### a pick -/
def sp_pick (K : PySem.W.Frag) : Sp := fun vs H Q _ => ∃ (p c a : Addr) (xs : List V), vs = [.ref p, .ref a] ∧ Pot H p c ∧ SqL K H a xs ∧ a ≠ p ∧ a ≠ c ∧ xs ≠ [] ∧ xs.length ≤ 1000 ∧ ∀ H' x, Pot H' p c → PS2 p c H H' → x ∈ xs → Q x H'
theorem ok_pick (T : Tx K mg) : FnOk P w K mg base CX0 2 T.f__law_pick T.fd__law_pick ["pot", "some"] (sp_pick K) := by
  have G__law_draw := ok_draw (P := P) (w := w) (base := base) T
  have b__law_draw := T.d__law_draw.F.binds (ps := ["pot", "many"]) fun _ _ _ _ _ _ us hl => match us, hl with | [_, _], _ => rfl
  refine T.d__law_pick.F.ok sc__law_pick (fun vs H Q E h => ?_) (fun cdv A outer s H vs Q E hr h => ?_)
  · obtain ⟨p, c, a, xs, rfl, _⟩ := h
    rfl
  · obtain ⟨p, c, a, xs, rfl, hP, hS, n1, n2, h0, hl, k⟩ := h
    have hu := hu_of hr
    have hu64 := hr.units
    refine ⟨_, (pss_one (ps_ret (pe_ix (ixAny (K := K) rfl) (pv 1) (pe_call G__law_draw (hr.mono (by decide)) rfl T.d__law_draw.g T.d__law_draw.F.kp b__law_draw .nil pass0 (pa_cons (pv 0) (pa_cons (pe_callB (caLen (K := K) rfl) (by rfl) T.n_len (by decide +kernel) (pa_cons (pv 1) pa_nil)) pa_nil))) (fun _ _ => rfl)))), ?_⟩
    have hpos : 0 < xs.length := List.length_pos_iff.mpr h0
    tm_at "rd"
    refine q_len_lst hS ?_
    tm_at "rd"
    refine ⟨p, c, (xs.length : Int), rfl, hP, by omega, by omega, fun H1 r hP1 s1 r1 r2 => ?_⟩
    obtain ⟨j, rfl⟩ := Int.eq_ofNat_of_zero_le r1
    have hj : j < xs.length := by omega
    exact q_ix_lst (s1.seq n1 n2 hS) (atI_nat (List.getElem?_eq_getElem hj)) (k _ _ hP1 s1 (List.getElem_mem hj))
end
end K15

set_option maxHeartbeats 4000000
/-! W15f: the law's own tokens. -/
namespace K15
open PySem PySem.Spec PyProof.Rows L2 TL Ak
local macro_rules | `(tactic| tm_at "rd1") => `(tactic| with_reducible first
  | refine r_seq ?_ | refine r_ifS ?_ | refine r_ret ?_ | refine r_asg ?_ | refine r_next ?_ | refine r_drop ?_ | refine r_par ?_ | refine r_brk ?_ | refine r_cont ?_
  | refine r_op ?_ | refine r_c ?_ | refine r_cb ?_ | refine r_cons ?_ | refine r_nil ?_ | refine r_un ?_ | refine r_tB ?_ | refine r_test ?_ | refine r_not ?_ | refine r_and ?_ | refine r_or ?_ | refine r_andV ?_ | refine r_orV ?_ | refine r_notV ?_ | refine r_if ?_ | refine r_chain ?_
  | refine r_tup ?_ | refine r_lst ?_ | refine r_sl ?_ | refine r_part ?_ | refine r_nopart ?_ | refine r_call ?_ | refine r_callK ?_ | refine r_bm ?_ | refine r_bm0 ?_ | refine r_m1 ?_ | refine r_m0 ?_ | refine r_isN ?_ | refine r_notN ?_
  | refine r_gcons ?_ | refine r_gnil ?_ | refine r_gsub ?_ | refine r_name ?_ | refine r_ilist ?_ | refine r_itup ?_ | refine r_istr ?_ | refine r_irng1 ?_ | refine r_ienum ?_ | refine r_mko ?_ | refine r_yes ?_ | refine r_lc ?_ | refine r_for ?_ | refine turn_i ?_
  | refine r_bl ?_ | refine r_int ?_ | refine r_two ?_ | refine r_str ?_ | refine r_two1 ?_
  | refine b_t ?_ | refine b_f ?_ | refine b_nt ?_ | refine b_nf ?_ | refine q_isi_str ?_ | refine q_u ?_ | refine q_i0 ?_ | refine q_ipI ?_ | refine q_add_int ?_ | refine q_eq_int ?_ | refine q_ne_int ?_ | refine q_eq_tx ?_ | refine q_ne_tx ?_ | refine q_in_sg ?_ | refine q_ni_sg ?_)
local macro_rules | `(tactic| tm_at "rd2") => `(tactic| first
  | tm_at "rd1" | refine r_var rfl ?_ | refine r_aug rfl ?_ 
  | refine And.intro (small_n (by simp)) ?_ | tm_at "rdl")
local macro_rules | `(tactic| tm_at "rdl") => `(tactic| first | (with_reducible refine q_len_tx (by assumption) ?_) | (with_reducible refine q_len_tx (by omega) ?_))
local macro_rules | `(tactic| tm_at "rd") => `(tactic| repeat tm_at "rd2")

section
variable {P : Program} {w : World} {K : PySem.W.Frag} {mg : Str → Option Value} {base : Heap}
theorem mem_run (c : Nat) : decide (c ∈ cs "abcdefghijklmnopqrstuvwxyzABCDEFGHIJKLMNOPQRSTUVWXYZ0123456789_") = Tk.isRun c := by
  have e : cs "abcdefghijklmnopqrstuvwxyzABCDEFGHIJKLMNOPQRSTUVWXYZ0123456789_" = List.range' 97 26 ++ List.range' 65 26 ++ List.range' 48 10 ++ [95] := by decide
  rw [e, Bool.eq_iff_iff, decide_eq_true_eq, List.mem_append, List.mem_append, List.mem_append, List.mem_range'_1, List.mem_range'_1, List.mem_range'_1, List.mem_singleton]
  simp only [Tk.isRun, Tk.isSml, Tk.isGrt, Tk.isDig, Bool.or_eq_true, Bool.and_eq_true, decide_eq_true_eq, beq_iff_eq]
  omega
theorem mem_dig_ (c : Nat) : decide (c ∈ cs "0123456789_") = (Tk.isDig c || (c == 95)) := by
  have e : cs "0123456789_" = List.range' 48 10 ++ [95] := by decide
  rw [e, Bool.eq_iff_iff, decide_eq_true_eq, List.mem_append, List.mem_range'_1, List.mem_singleton]
  simp only [Tk.isDig, Bool.or_eq_true, Bool.and_eq_true, decide_eq_true_eq, beq_iff_eq]
  omega
theorem shaped_signs (l : List Nat) (h : ∀ c ∈ l, c < 128) : SeqAt.shaped (.list (l.map fun c => PyData.str (tx [c]))) = true := by
  have a : ∀ l : List Nat, (∀ c ∈ l, c < 128) → PyData.canLayAll0 (l.map fun c => PyData.str (tx [c])) = true := by
    intro l
    induction l with
    | nil => intro _; rfl
    | cons x l ih =>
      intro h
      show (PyData.strOk (tx [x]) && PyData.canLayAll0 (l.map fun c => PyData.str (tx [c]))) = true
      rw [ih fun c hc => h c (List.mem_cons_of_mem _ hc)]
      have := h x List.mem_cons_self
      simp [PyData.strOk]
      omega
  have b : ∀ l : List Nat, PyData.depthAll (l.map fun c => PyData.str (tx [c])) = 0 := by
    intro l
    induction l with
    | nil => simp [PyData.depthAll]
    | cons x l ih => show PyData.depthAll (PyData.str (tx [x]) :: l.map fun c => PyData.str (tx [c])) = 0; simp [PyData.depthAll, PyData.depth, ih]
  unfold SeqAt.shaped
  simp only [PyData.canLay0, a l h, PyData.depth, b, Bool.and_self, Bool.true_and, decide_eq_true_eq]
  omega
theorem dp_signs {H : Hp} {a : Addr} {l : List Nat} (h : SqL K H a (l.map sg)) : Dp K H (.ref a) (.list (l.map fun c => PyData.str (tx [c]))) := by
  have : ∀ l : List Nat, DpAll K H (l.map sg) (l.map fun c => PyData.str (tx [c])) := by
    intro l
    induction l with
    | nil => exact .nil
    | cons x l ih => exact .cons (.str _) ih
  exact .lst h (this l)
theorem run_ascii {c : Nat} (h : Tk.isRun c = true) : c < 128 := by
  simp only [Tk.isRun, Tk.isSml, Tk.isGrt, Tk.isDig, Bool.or_eq_true, Bool.and_eq_true, decide_eq_true_eq, beq_iff_eq] at h
  omega
/-! ### _law_is_run_sign -/
def sp_isrun : Sp := fun vs H Q _ => ∃ c : Nat, vs = [sg c] ∧ Q (.bl (Tk.isRun c)) H
theorem ok_isrun (T : Tx K mg) : FnOk P w K mg base CX0 1 T.f__law_is_run_sign T.fd__law_is_run_sign ["sign"] sp_isrun := by
  refine T.d__law_is_run_sign.F.ok sc__law_is_run_sign (fun vs H Q E h => ?_) (fun cdv A outer s H vs Q E hr h => ?_)
  · obtain ⟨c, rfl, _⟩ := h
    rfl
  · obtain ⟨c, rfl, k⟩ := h
    refine ⟨_, (pss_one (ps_ret (pe_cmpR (opIn (K := K) rfl) (pv 0) (pe_lit "abcdefghijklmnopqrstuvwxyzABCDEFGHIJKLMNOPQRSTUVWXYZ0123456789_") (by rfl)))), ?_⟩
    tm_at "rd"
    rw [mem_run]
    exact k
/-! ### _law_sort -/
def sp_lsort : Sp := fun vs H Q _ => ∃ z : List Nat, vs = [.str (tx z)] ∧ z.length ≤ 90000 ∧ z ≠ [] ∧ z.all Tk.isRun = true ∧ ∀ H', Same H H' → Q (.str (tx (Tk.sortLaw z))) H'
theorem ok_lsort (T : Tx K mg) : FnOk P w K mg base CX0 1 T.f__law_sort T.fd__law_sort ["run"] sp_lsort := by
  refine T.d__law_sort.F.ok sc__law_sort (fun vs H Q E h => ?_) (fun cdv A outer s H vs Q E hr h => ?_)
  · obtain ⟨z, rfl, _⟩ := h
    rfl
  · obtain ⟨z, rfl, hz, hne, hall, k⟩ := h
    have hu := hu_of hr
    have hu64 := hr.units
    have ascii : ∀ c ∈ z, c < 128 := fun c hc => run_ascii (List.all_eq_true.mp hall c hc)
    obtain ⟨x, t, rfl⟩ : ∃ x t, z = x :: t := by
      cases z with
      | nil => exact absurd rfl hne
      | cons x t => exact ⟨x, t, rfl⟩
    have hlz : (tx (x :: t)).length < sizeLine := by
      rw [len_tx]
      exact Nat.lt_of_le_of_lt hz (by decide)
    refine ⟨_, (pss_cons (ps_set (i := 1) sc__law_sort.nd rfl (Or.inl rfl) (pe_lst (pa_cons (pe_lit "ask") (pa_cons (pe_lit "do") (pa_cons (pe_lit "else") (pa_cons (pe_lit "end") (pa_cons (pe_lit "false") (pa_cons (pe_lit "fn") (pa_cons (pe_lit "fst") (pa_cons (pe_lit "handle") (pa_cons (pe_lit "if") (pa_cons (pe_lit "in") (pa_cons (pe_lit "let") (pa_cons (pe_lit "match") (pa_cons (pe_lit "module") (pa_cons (pe_lit "rec") (pa_cons (pe_lit "return") (pa_cons (pe_lit "snd") (pa_cons (pe_lit "then") (pa_cons (pe_lit "true") (pa_cons (pe_lit "use") (pa_cons (pe_lit "with") (pa_cons (pe_lit "int") (pa_cons (pe_lit "bool") (pa_cons (pe_lit "unit") pa_nil)))))))))))))))))))))))))
      (pss_cons (ps_if (pt_cmpR (opIn (K := K) rfl) (pv 0) (pv 1) (by rfl)) (pss_one (ps_ret (pe_lit "word"))) pss_nil)
      (pss_cons (ps_if (pt_cmpR (opEq (K := K) rfl hu64) (pe_lc (own := [("sign", 2)]) (g := gName 2) rfl sc__law_sort.nd (pi_str (pv 0)) (blkOk_by (own := [("sign", 2)]) (N := nm__law_sort) (sc := defScope s__law_sort) (by decide +kernel)) (fun _ _ _ _ _ => pg_name (i := 2) sc__law_sort.nd rfl (Or.inl rfl)) (fun _ _ _ _ _ => pts_one (pt_cmpR (opNi (K := K) rfl) (pv 2) (pe_lit "0123456789") (by rfl))) (fun _ _ _ _ _ => (pv 2))) (pe_lst pa_nil) (nomark _)) (pss_one (ps_ret (pe_lit "figures"))) pss_nil)
      (pss_cons (ps_if (PW.pt (pw_or (pt_cmpR op_gt (pe_callB (caLen (K := K) rfl) (by rfl) T.n_len (by decide +kernel) (pa_cons (pv 0) pa_nil)) pe_int (nomark _)) (pw_or1 (pt_cmpR (opIn (K := K) rfl) (pe_ix (ixAny (K := K) rfl) (pv 0) pe_int (fun _ _ => rfl)) (pe_lit "0123456789_") (by rfl))))) (pss_one (ps_ret (pe_lit "none"))) pss_nil)
      (pss_cons (ps_if (pt_cmpR (opIn (K := K) rfl) (pe_ix (ixAny (K := K) rfl) (pv 0) pe_int (fun _ _ => rfl)) (pe_lit "abcdefghijklmnopqrstuvwxyz") (by rfl)) (pss_one (ps_ret (pe_ifExp (pt_cmpR (opEq (K := K) rfl hu64) (pe_lc (own := [("sign", 2)]) (g := gName 2) rfl sc__law_sort.nd (pi_str (pv 0)) (blkOk_by (own := [("sign", 2)]) (N := nm__law_sort) (sc := defScope s__law_sort) (by decide +kernel)) (fun _ _ _ _ _ => pg_name (i := 2) sc__law_sort.nd rfl (Or.inl rfl)) (fun _ _ _ _ _ => pts_one (pt_cmpR (opIn (K := K) rfl) (pv 2) (pe_lit "ABCDEFGHIJKLMNOPQRSTUVWXYZ") (by rfl))) (fun _ _ _ _ _ => (pv 2))) (pe_lst pa_nil) (nomark _)) (pe_lit "name") (pe_lit "none")))) pss_nil)
      (pss_one (ps_ret (pe_ifExp (pt_cmpR (opNi (K := K) rfl) (pe_lit "_") (pv 0) (by rfl)) (pe_lit "ask") (pe_lit "none"))))))))), ?_⟩
    tm_at "rd"
    intro p hp
    tm_at "rd"
    have s1 := same_new (o := .lst (Tk.reserved.map fun y => V.str (tx y))) hp
    refine q_in_txs (ys := Tk.reserved) (.inl (SqL.of upd_same)) ?_
    unfold Tk.sortLaw at k
    tm_at "rd"
    refine biff (fun h1 => ?_) (fun h1 => ?_)
    · rw [if_pos h1] at k
      tm_at "rd"
      exact k _ s1
    · rw [if_neg (by rw [h1]; exact Bool.false_ne_true)] at k
      tm_at "rd"
      intro D hD
      refine lc_txt (fun c => !Tk.isDig c) sg hlz (fun c _ H2 Q2 s2 q => ?_) (fun c _ _ H2 Q2 s2 q => ?_) hD ?_
      · tm_at "rd"
        rw [mem_digits]
        exact q
      · tm_at "rd"
        exact q
      · tm_at "rd"
        intro e he
        have s2 := same_new (o := .lst (((tl (tx (x :: t))).filter fun c => !Tk.isDig c).map sg)) hD
        have s3 := same_new (o := .lst []) he
        refine q_eq_dat (dp_signs (s3.seq (SqL.of upd_same))) (.lst (SqL.of upd_same) .nil) (shaped_signs _ fun c hc => ascii c ((List.mem_filter.mp hc).1)) (by rfl) ?_
        rw [eqv_nil']
        have e1 : (((tl (tx (x :: t))).filter fun c => !Tk.isDig c).map fun c => PyData.str (tx [c])).isEmpty = decide (((x :: t).filter fun c => !Tk.isDig c) = []) := by
          rw [Bool.eq_iff_iff, List.isEmpty_iff, decide_eq_true_eq, List.map_eq_nil_iff]
        rw [e1]
        tm_at "rd"
        refine bd (fun h2 => ?_) (fun h2 => ?_)
        · rw [if_pos h2] at k
          tm_at "rd"
          exact k _ ((s1.trans s2).trans s3)
        · rw [if_neg h2] at k
          tm_at "rd"
          have s123 := (s1.trans s2).trans s3
          refine bd (fun h3 => ?_) (fun h3 => ?_)
          · rw [if_pos (Or.inl (by omega))] at k
            tm_at "rd"
            exact k _ s123
          · tm_at "rd"
            refine q_ix_tx (j := 0) (c := x) (by omega) rfl ?_
            tm_at "rd"
            rw [mem_dig_]
            refine biff (fun h4 => ?_) (fun h4 => ?_)
            · rw [if_pos (Or.inr (show (Tk.isDig ((x :: t).headD 0) || ((x :: t).headD 0 == 95)) = true from h4))] at k
              tm_at "rd"
              exact k _ s123
            · have n12 : ¬ (12 < (x :: t).length ∨ (Tk.isDig ((x :: t).headD 0) || ((x :: t).headD 0 == 95)) = true) := by
                rintro (z | z)
                · omega
                · have z' : (Tk.isDig x || (x == 95)) = true := z
                  rw [h4] at z'
                  cases z'
              rw [if_neg n12] at k
              tm_at "rd"
              refine q_ix_tx (j := 0) (c := x) (by omega) rfl ?_
              tm_at "rd"
              rw [mem_small]
              refine biff (fun h5 => ?_) (fun h5 => ?_)
              · rw [if_pos (show Tk.isSml ((x :: t).headD 0) = true from h5)] at k
                tm_at "rd"
                intro D2 hD2
                refine lc_txt Tk.isGrt sg hlz (fun c _ H2 Q2 s2 q => ?_) (fun c _ _ H2 Q2 s2 q => ?_) hD2 ?_
                · tm_at "rd"
                  rw [mem_great]
                  exact q
                · tm_at "rd"
                  exact q
                · tm_at "rd"
                  intro e2 he2
                  have s4 := same_new (o := .lst (((tl (tx (x :: t))).filter Tk.isGrt).map sg)) hD2
                  have s5 := same_new (o := .lst []) he2
                  refine q_eq_dat (dp_signs (s5.seq (SqL.of upd_same))) (.lst (SqL.of upd_same) .nil) (shaped_signs _ fun c hc => ascii c (List.mem_filter.mp hc).1) (by rfl) ?_
                  rw [eqv_nil']
                  have e3 : (((tl (tx (x :: t))).filter Tk.isGrt).map fun c => PyData.str (tx [c])).isEmpty = decide (((x :: t).filter Tk.isGrt) = []) := by
                    rw [Bool.eq_iff_iff, List.isEmpty_iff, decide_eq_true_eq, List.map_eq_nil_iff]
                  rw [e3]
                  tm_at "rd"
                  refine bd (fun h6 => ?_) (fun h6 => ?_)
                  · rw [if_pos h6] at k
                    tm_at "rd"
                    exact k _ ((s123.trans s4).trans s5)
                  · rw [if_neg h6] at k
                    tm_at "rd"
                    exact k _ ((s123.trans s4).trans s5)
              · rw [if_neg (by show ¬ Tk.isSml x = true; rw [h5]; exact Bool.false_ne_true)] at k
                tm_at "rd"
                refine q_ni_sg (c := 95) ?_
                have e4 : (!decide (95 ∈ x :: t)) = !((x :: t).contains 95) := by
                  congr 1
                  rw [Bool.eq_iff_iff, decide_eq_true_eq, List.contains_iff_mem]
                rw [e4]
                tm_at "rd"
                refine biff (fun h6 => ?_) (fun h6 => ?_)
                · rw [if_pos h6] at k
                  tm_at "rd"
                  exact k _ s123
                · rw [if_neg (by rw [h6]; exact Bool.false_ne_true)] at k
                  tm_at "rd"
                  exact k _ s123

/-! ### _law_tokens -/
theorem end_ok (x : List Nat) (hz : x.length ≤ 2000) : okT 4000 (Tk.endOf x) := by
  have hll := Tk.lines_len x
  refine ⟨show ∀ c ∈ Tk.sEnd, c < 128 from by decide, fun c hc => by simp [Tk.endOf] at hc, show Tk.sEnd.length ≤ 7 from by decide, by simp [Tk.endOf], ?_, ?_⟩
  · show (Tk.linesOf x).length - 1 ≤ 4000
    omega
  · show ((Tk.linesOf x).getLast (Tk.linesOf_ne x)).length ≤ 4000
    have := hll.2 _ (List.getLast_mem (Tk.linesOf_ne x))
    omega
/-- a text's tokens, as list at p -/
def sp_ltokens (K : PySem.W.Frag) : Sp := fun vs H Q _ => ∃ x : List Nat, vs = [.str (tx x)] ∧ x.length ≤ 2000 ∧ (∀ c ∈ x, c < 128) ∧
  ∀ H' p, Same H H' → H p = none → (∀ t ∈ Tk.toksOf x, okT 4000 t) → (Tk.toksOf x).length ≤ 5000000 → LstD K H' p ((Tk.toksOf x).map tokD) → Q (.ref p) H'
theorem ok_ltokens (T : Tx K mg) : FnOk P w K mg base CX0 3 T.f__law_tokens T.fd__law_tokens ["text"] (sp_ltokens K) := by
  have G__law_is_run_sign := ok_isrun (P := P) (w := w) (base := base) T
  have G__law_sort := ok_lsort (P := P) (w := w) (base := base) T
  have b__law_is_run_sign := T.d__law_is_run_sign.F.binds (ps := ["sign"]) fun _ _ _ _ _ _ us hl => match us, hl with | [_], _ => rfl
  have b__law_sort := T.d__law_sort.F.binds (ps := ["run"]) fun _ _ _ _ _ _ us hl => match us, hl with | [_], _ => rfl
  refine T.d__law_tokens.F.ok sc__law_tokens (fun vs H Q E h => ?_) (fun cdv A outer s H vs Q E hr h => ?_)
  · obtain ⟨x, rfl, _⟩ := h
    rfl
  · obtain ⟨x, rfl, hz, ha, k'⟩ := h
    have hu := hu_of hr
    have hu64 := hr.units
    refine ⟨_, (pss_cons (ps_par (i := 1) (j := 2) rfl sc__law_tokens.nd rfl rfl (by decide) rfl rfl (pa_cons (pe_lst pa_nil) (pa_cons (pe_split (pv 0) (pe_lit "\n")) pa_nil)) (by rfl))
      (pss_cons (ps_for PassesOwn.never rfl (pi_enum (by rfl) T.n_enumerate (pa_cons (pv 2) pa_nil)) (pg_tup rfl (pgs_cons (pg_name (i := 3) sc__law_tokens.nd rfl (Or.inl rfl)) (pgs_cons (pg_name (i := 4) sc__law_tokens.nd rfl (Or.inl rfl)) pgs_nil))) (pss_cons (ps_set (i := 5) sc__law_tokens.nd rfl (Or.inl rfl) pe_int)
      (pss_one (ps_while PassesOwn.never (PW.pt (pw_and (pt_cmpR op_lt (pv 5) (pe_callB (caLen (K := K) rfl) (by rfl) T.n_len (by decide +kernel) (pa_cons (pv 4) pa_nil)) (nomark _)) (pw_and1 (pt_cmpR (opNe (K := K) rfl hu64) (pe_ix (ixAny (K := K) rfl) (pv 4) (pv 5) (fun _ _ => rfl)) (pe_lit "#") (nomark _))))) (pss_cons (ps_set (i := 6) sc__law_tokens.nd rfl (Or.inl rfl) (pv 5))
      (C8.pss_cut (ps_while PassesOwn.never (PW.pt (pw_and (pt_cmpR op_lt (pv 6) (pe_callB (caLen (K := K) rfl) (by rfl) T.n_len (by decide +kernel) (pa_cons (pv 4) pa_nil)) (nomark _)) (pw_and1 (pt_val (pe_call G__law_is_run_sign (hr.mono (by decide)) rfl T.d__law_is_run_sign.g T.d__law_is_run_sign.F.kp b__law_is_run_sign .nil pass0 (pa_cons (pe_ix (ixAny (K := K) rfl) (pv 4) (pv 6) (fun _ _ => rfl)) pa_nil)))))) (pss_one (ps_set (i := 6) sc__law_tokens.nd rfl (Or.inl rfl) (pe_op (opAdd (K := K) rfl) (pv 6) pe_int))))
      (C8.pss_cut (ps_if (pt_cmpR (opEq (K := K) rfl hu64) (pe_ix (ixAny (K := K) rfl) (pv 4) (pv 5) (fun _ _ => rfl)) (pe_lit " ") (nomark _)) (pss_one (ps_set (i := 6) sc__law_tokens.nd rfl (Or.inl rfl) (pe_op (opAdd (K := K) rfl) (pv 5) pe_int))) (pss_one (ps_if (pt_cmpR op_gt (pv 6) (pv 5) (nomark _)) (pss_one (ps_expr (pe_bm PySem.F.plainAttrs_list PySem.F.slot_list_append PySem.F.type_list_append mt_append (pv 1) (pa_cons (pe_tup (pa_cons (pe_call G__law_sort (hr.mono (by decide)) rfl T.d__law_sort.g T.d__law_sort.F.kp b__law_sort .nil pass0 (pa_cons (pe_slice (slAny (K := K) rfl) (pv 4) (po_some (pv 5)) (po_some (pv 6))) pa_nil)) (pa_cons (pe_slice (slAny (K := K) rfl) (pv 4) (po_some (pv 5)) (po_some (pv 6))) (pa_cons (pv 3) (pa_cons (pv 5) pa_nil))))) pa_nil)))) (pss_cons (ps_set (i := 6) sc__law_tokens.nd rfl (Or.inl rfl) (pe_op (opAdd (K := K) rfl) (pv 5) (pe_ifExp (pt_cmpR (opIn (K := K) rfl) (pe_slice (slAny (K := K) rfl) (pv 4) (po_some (pv 5)) (po_some (pe_op (opAdd (K := K) rfl) (pv 5) pe_int))) (pe_tup (pa_cons (pe_lit "->") (pa_cons (pe_lit "::") pa_nil))) (by rfl)) pe_int pe_int)))
      (pss_cons (ps_set (i := 7) sc__law_tokens.nd rfl (Or.inl rfl) (pe_slice (slAny (K := K) rfl) (pv 4) (po_some (pv 5)) (po_some (pv 6))))
      (pss_one (ps_expr (pe_bm PySem.F.plainAttrs_list PySem.F.slot_list_append PySem.F.type_list_append mt_append (pv 1) (pa_cons (pe_tup (pa_cons (pe_ifExp (PW.pt (pw_or (pt_cmpR op_gt (pe_callB (caLen (K := K) rfl) (by rfl) T.n_len (by decide +kernel) (pa_cons (pv 7) pa_nil)) pe_int (nomark _)) (pw_or1 (pt_cmpR (opIn (K := K) rfl) (pv 7) (pe_lit "()[],:=<+-*|") (by rfl))))) (pe_lit "sign") (pe_lit "none")) (pa_cons (pv 7) (pa_cons (pv 3) (pa_cons (pv 5) pa_nil))))) pa_nil)))))))))
      (pss_cons (ps_if (PW.pt (pw_and (pt_cmpR (opNe (K := K) rfl hu64) (pv 1) (pe_lst pa_nil) (nomark _)) (pw_and1 (pt_cmpR (opEq (K := K) rfl hu64) (pe_ix (ixAny (K := K) rfl) (pe_ix (ixAny (K := K) rfl) (pv 1) (pe_un un_neg pe_int) (fun _ _ => rfl)) pe_int (fun _ _ => rfl)) (pe_lit "none") (nomark _))))) (pss_one (ps_ret (pv 1))) pss_nil)
      (pss_one (ps_set (i := 5) sc__law_tokens.nd rfl (Or.inl rfl) (pv 6)))))))))))
      (pss_one (ps_ret (pe_op (opAdd (K := K) rfl) (pv 1) (pe_lst (pa_cons (pe_tup (pa_cons (pe_lit "end") (pa_cons (pe_lit "") (pa_cons (pe_op op_sub (pe_callB (caLen (K := K) rfl) (by rfl) T.n_len (by decide +kernel) (pa_cons (pv 2) pa_nil)) pe_int) (pa_cons (pe_callB (caLen (K := K) rfl) (by rfl) T.n_len (by decide +kernel) (pa_cons (pe_ix (ixAny (K := K) rfl) (pv 2) (pe_un un_neg pe_int) (fun _ _ => rfl)) pa_nil)) pa_nil))))) pa_nil))))))), ?_⟩
    tm_at "rd"
    intro f nf
    tm_at "rd"
    have ecs : cs "\n" = [10] := by decide
    refine ⟨tx x, tx (cs "\n"), rfl, rfl, rfl, ?_, ?_⟩
    · rw [len_tx]
      exact Nat.le_trans (show x.length + 2 ≤ 3000 by omega) (by decide)
    unfold rNewStrs
    rw [ecs, Tk.split_lines]
    intro a na
    tm_at "rd"
    have hll := Tk.lines_len x
    have naf : a ≠ f := fun e => by rw [e, upd_same] at na; cases na
    have nf0 : H f = none := nf
    have sF := same_new (o := .lst []) nf
    have hlines : (upd (upd H f (.lst [])) a (.lst ((Tk.linesOf x).map fun y => V.str (tx y)))) a = some (.lst ((Tk.linesOf x).map fun y => V.str (tx y))) := upd_same
    have hf0 : (upd (upd H f (.lst [])) a (.lst ((Tk.linesOf x).map fun y => V.str (tx y)))) f = some (.lst []) := by rw [upd_ne naf.symm, upd_same]
    refine ⟨a, (Tk.linesOf x).map fun y => V.str (tx y), rfl, SqL.of hlines, for_it (walk_enum (K := K) (a := a) (xs := (Tk.linesOf x).map fun y => V.str (tx y)))
      (fun i σ H1 => ∃ (acc : List Tk.T) (o1 o2 o3 o4 o5 : Option V), σ = [some (.str (tx x)), some (.ref f), some (.ref a), o1, o2, o3, o4, o5] ∧ Same H H1 ∧ H1 a = some (.lst ((Tk.linesOf x).map fun y => V.str (tx y))) ∧ LstD K H1 f (acc.map tokD) ∧
        (∀ t ∈ acc, okT 4000 t) ∧ acc.length ≤ 2000 * i ∧ Tk.lastNone acc = false ∧ Tk.toksOf x = Tk.linesT (Tk.endOf x) i ((Tk.linesOf x).drop i) acc)
      ⟨[], none, none, none, none, none, rfl, sF.trans (same_new na), hlines, ⟨[], hf0, .nil⟩, by simp, by simp, rfl, rfl⟩ ?_ ?_ ?_⟩
    · rintro i σ H1 _ ⟨_, _, _, _, _, _, _, _, h, _⟩
      exact SqL.of h
    · rintro i y σ H1 H2 hi ⟨acc, o1, o2, o3, o4, o5, rfl, s1, hA, hL, hok, hlen, hnn, hT⟩ ⟨q, y1, y2, rfl, hq, rfl, e1, e2⟩
      rw [List.length_map] at hi
      have ey1 : y1 = .int (i : Int) := (Option.some.inj e1).symm
      subst ey1
      obtain ⟨l, hl, rfl⟩ := map_at (show ((Tk.linesOf x).map fun y => V.str (tx y))[i]? = some y2 from e2)
      have hlm : l ∈ Tk.linesOf x := List.mem_of_getElem? hl
      have hll2 := hll.2 l hlm
      refine r_gtup (SqT.of upd_same) rfl ?_
      tm_at "rd"
      have s2 := same_new (o := .tup [.int (i : Int), .str (tx l)]) hq
      have hTi : Tk.toksOf x = if Tk.lastNone (acc ++ Tk.row1 i l 0) then acc ++ Tk.row1 i l 0 else Tk.linesT (Tk.endOf x) (i + 1) ((Tk.linesOf x).drop (i + 1)) (acc ++ Tk.row1 i l 0) := by
        have e : (Tk.linesOf x).drop i = l :: (Tk.linesOf x).drop (i + 1) := by
          obtain ⟨h1, h2⟩ := List.getElem?_eq_some_iff.mp hl
          rw [← h2]
          exact List.drop_eq_getElem_cons h1
        rw [hT, e]
        rfl
      generalize hZ : acc ++ Tk.row1 i l 0 = Z at hTi
      refine r_while (fun σ H3 => ∃ (j : Nat) (ds : List Tk.T) (o4 o5 : Option V), σ = [some (.str (tx x)), some (.ref f), some (.ref a), some (.int (i : Int)), some (.str (tx l)), some (.int (j : Int)), o4, o5] ∧ Same H H3 ∧
          H3 a = some (.lst ((Tk.linesOf x).map fun y => V.str (tx y))) ∧ LstD K H3 f (ds.map tokD) ∧ (∀ t ∈ ds, okT 4000 t) ∧ ds.length ≤ 2000 * i + j ∧ j ≤ l.length ∧ Tk.lastNone ds = false ∧ Z = ds ++ Tk.row1 i (l.drop j) j)
        (fun σ _ => match σ with | [_, _, _, _, _, some (.int j), _, _] => l.length - j.toNat | _ => 0) ⟨0, acc, o4, o5, rfl, s1.trans s2, s2 _ _ hA, hL.same s2, hok, by omega, by omega, hnn, hZ.symm⟩ ?_
      rintro σ H3 ⟨j, ds, o4, o5, rfl, s3, hA3, hL3, hok3, hlen3, hj, hnn3, hZ3⟩
      have fin : Tk.row1 i (l.drop j) j = [] → ∃ (acc : List Tk.T) (p1 p2 p3 p4 p5 : Option V), [some (.str (tx x)), some (.ref f), some (.ref a), some (.int (i : Int)), some (.str (tx l)), some (.int (j : Int)), o4, o5] = [some (.str (tx x)), some (.ref f), some (.ref a), p1, p2, p3, p4, p5] ∧ Same H H3 ∧ H3 a = some (.lst ((Tk.linesOf x).map fun y => V.str (tx y))) ∧ LstD K H3 f (acc.map tokD) ∧
        (∀ t ∈ acc, okT 4000 t) ∧ acc.length ≤ 2000 * (i + 1) ∧ Tk.lastNone acc = false ∧ Tk.toksOf x = Tk.linesT (Tk.endOf x) (i + 1) ((Tk.linesOf x).drop (i + 1)) acc := fun e => by
        rw [e, List.append_nil] at hZ3
        subst hZ3
        refine ⟨Z, _, _, _, _, _, rfl, s3, hA3, hL3, hok3, by omega, hnn3, ?_⟩
        rw [hTi, hnn3]
        rfl
      tm_at "rd"
      refine bd (fun h4 => ?_) (fun h4 => ?_)
      · have hjl : j < l.length := by omega
        obtain ⟨z, hz1⟩ : ∃ z, l[j]? = some z := ⟨_, List.getElem?_eq_getElem hjl⟩
        have hd : l.drop j = z :: l.drop (j + 1) := by
          obtain ⟨h1, h2⟩ := List.getElem?_eq_some_iff.mp hz1
          rw [← h2]
          exact List.drop_eq_getElem_cons h1
        tm_at "rd"
        refine q_ix_tx (by omega) hz1 ?_
        refine q_ne_tx (a := [z]) ?_
        have e35 : cs "#" = [35] := by decide
        have e32 : cs " " = [32] := by decide
        rw [e35]
        tm_at "rd"
        refine bnd (fun h5 => ?_) (fun h5 => ?_)
        · have n35 : z ≠ 35 := fun q => h5 (by rw [q])
          have hrl : (Tk.runOf (l.drop j)).length ≤ l.length - j := by
            have := (List.takeWhile_sublist (l := l.drop j) Tk.isRun).length_le
            rwa [List.length_drop] at this
          have pre1 : (l.drop j).take (Tk.runOf (l.drop j)).length = Tk.runOf (l.drop j) := by
            have := List.takeWhile_prefix (l := l.drop j) Tk.isRun
            exact (List.prefix_iff_eq_take.mp this).symm
          tm_at "rd"
          refine ⟨fun σ H4 => H4 = H3 ∧ σ = [some (.str (tx x)), some (.ref f), some (.ref a), some (.int (i : Int)), some (.str (tx l)), some (.int (j : Int)), some (.int ((j + (Tk.runOf (l.drop j)).length : Nat) : Int)), o5], ?_, ?_⟩
          · refine r_while (fun σ H4 => H4 = H3 ∧ ∃ k : Nat, σ = [some (.str (tx x)), some (.ref f), some (.ref a), some (.int (i : Int)), some (.str (tx l)), some (.int (j : Int)), some (.int (k : Int)), o5] ∧ j ≤ k ∧ k ≤ l.length ∧ (Tk.runOf (l.drop j)).length = (k - j) + (Tk.runOf (l.drop k)).length)
              (fun σ _ => match σ with | [_, _, _, _, _, _, some (.int k), _] => l.length - k.toNat | _ => 0) ⟨rfl, j, rfl, Nat.le_refl _, hj, by omega⟩ ?_
            rintro σ H4 ⟨rfl, k, rfl, g1, g2, g3⟩
            have fin2 : (Tk.runOf (l.drop k)).length = 0 → H4 = H4 ∧ [some (V.str (tx x)), some (V.ref f), some (V.ref a), some (V.int (i : Int)), some (V.str (tx l)), some (V.int (j : Int)), some (V.int (k : Int)), o5] = [some (.str (tx x)), some (.ref f), some (.ref a), some (.int (i : Int)), some (.str (tx l)), some (.int (j : Int)), some (.int ((j + (Tk.runOf (l.drop j)).length : Nat) : Int)), o5] := fun e => by
              have : k = j + (Tk.runOf (l.drop j)).length := by omega
              rw [← this]
              exact ⟨rfl, rfl⟩
            tm_at "rd"
            refine bd (fun g4 => ?_) (fun g4 => ?_)
            · have hkl : k < l.length := by omega
              obtain ⟨y, hy⟩ : ∃ y, l[k]? = some y := ⟨_, List.getElem?_eq_getElem hkl⟩
              tm_at "rd"
              refine q_ix_tx (by omega) hy ?_
              tm_at "rd"
              refine ⟨y, rfl, ?_⟩
              tm_at "rd"
              refine biff (fun g5 => ?_) (fun g5 => ?_)
              · tm_at "rd"
                refine ⟨⟨rfl, k + 1, rfl, by omega, by omega, ?_⟩, by show l.length - ((k : Int) + 1).toNat < l.length - (k : Int).toNat; omega⟩
                rw [g3, run_step hy, if_pos g5, List.length_cons]
                omega
              · exact fin2 (by rw [run_step hy, if_neg (by rw [g5]; exact Bool.false_ne_true)]; rfl)
            · tm_at "rd"
              exact fin2 (by rw [run_end (by omega)]; rfl)
          · rintro σ H4 ⟨rfl, rfl⟩
            generalize hrn : (Tk.runOf (l.drop j)).length = rl at *
            refine ⟨fun σ H5 => ∃ (k : Nat) (es : List Tk.T) (o5 : Option V), σ = [some (.str (tx x)), some (.ref f), some (.ref a), some (.int (i : Int)), some (.str (tx l)), some (.int (j : Int)), some (.int (k : Int)), o5] ∧ Same H H5 ∧
              H5 a = some (.lst ((Tk.linesOf x).map fun y => V.str (tx y))) ∧ LstD K H5 f (es.map tokD) ∧ (∀ t ∈ es, okT 4000 t) ∧ es.length ≤ 2000 * i + k ∧ k ≤ l.length ∧ j < k ∧ (Tk.lastNone es = true → Z = es) ∧ (Tk.lastNone es = false → Z = es ++ Tk.row1 i (l.drop k) k), ?_, ?_⟩
            · tm_at "rd"
              refine q_ix_tx (by omega) hz1 ?_
              refine q_eq_tx (a := [z]) ?_
              rw [e32]
              tm_at "rd"
              refine bd (fun h6 => ?_) (fun h6 => ?_)
              · have e : z = 32 := by simpa using h6
                subst e
                tm_at "rd"
                refine ⟨j + 1, ds, _, rfl, s3, hA3, hL3, hok3, by omega, by omega, by omega, fun q => absurd (hnn3 ▸ q) Bool.false_ne_true, fun _ => ?_⟩
                rw [hZ3, hd, Tk.row1_sp]
              · have n32 : z ≠ 32 := fun q => h6 (by rw [q])
                -- the token, the list behind it
                have hk1 := Tk.tokAt_pos (l.drop j)
                have hk2 : (Tk.tokAt (l.drop j)).2 ≤ l.length - j := by
                  have := Tk.tokAt_le z (l.drop (j + 1))
                  rw [← hd, List.length_drop] at this
                  exact this
                have more : ∀ (sr te : List Nat) (k : Nat) (p : Addr) (vs : List V) (H5 : Hp) (o : Option V), (sr, te) = ((Tk.tokAt (l.drop j)).1, (l.drop j).take (Tk.tokAt (l.drop j)).2) → k = j + (Tk.tokAt (l.drop j)).2 → Same H4 H5 → H5 p = none → H5 f = some (.lst vs) →
                    ∃ (k' : Nat) (es : List Tk.T) (o5 : Option V), [some (.str (tx x)), some (.ref f), some (.ref a), some (.int (i : Int)), some (.str (tx l)), some (.int (j : Int)), some (.int (k : Int)), o] = [some (.str (tx x)), some (.ref f), some (.ref a), some (.int (i : Int)), some (.str (tx l)), some (.int (j : Int)), some (.int (k' : Int)), o5] ∧ Same H (upd (upd H5 p (.tup [.str (tx sr), .str (tx te), .int (i : Int), .int (j : Int)])) f (.lst (vs ++ [.ref p]))) ∧
                      (upd (upd H5 p (.tup [.str (tx sr), .str (tx te), .int (i : Int), .int (j : Int)])) f (.lst (vs ++ [.ref p]))) a = some (.lst ((Tk.linesOf x).map fun y => V.str (tx y))) ∧ LstD K (upd (upd H5 p (.tup [.str (tx sr), .str (tx te), .int (i : Int), .int (j : Int)])) f (.lst (vs ++ [.ref p]))) f (es.map tokD) ∧ (∀ t ∈ es, okT 4000 t) ∧ es.length ≤ 2000 * i + k' ∧ k' ≤ l.length ∧ j < k' ∧ (Tk.lastNone es = true → Z = es) ∧ (Tk.lastNone es = false → Z = es ++ Tk.row1 i (l.drop k') k') := by
                  intro sr te k p vs H5 o est ek s5 hp hv
                  cases est
                  let t : Tk.T := ⟨(Tk.tokAt (l.drop j)).1, (l.drop j).take (Tk.tokAt (l.drop j)).2, i, j⟩
                  have er : Tk.row1 i (l.drop j) j = t :: (if t.sort = Tk.sNone then [] else Tk.row1 i (l.drop (j + (Tk.tokAt (l.drop j)).2)) (j + (Tk.tokAt (l.drop j)).2)) := by
                    rw [hd, Tk.row1_tok i j n35 n32, ← hd, List.drop_drop]
                  have hp0 : H4 p = none := s5.free hp
                  have np : f ≠ p := ne_of_none hv hp
                  have hokt : okT 4000 t := by
                    refine ⟨at_ascii _, fun q hq => ha q (Tk.lines_mem l hlm (List.mem_of_mem_drop (List.mem_of_mem_take hq))), at_len _, ?_, ?_, ?_⟩
                    · show ((l.drop j).take (Tk.tokAt (l.drop j)).2).length ≤ 4000
                      rw [List.length_take]
                      omega
                    · show i ≤ 4000
                      omega
                    · show j ≤ 4000
                      omega
                  refine ⟨k, ds ++ [t], o, rfl, ?_, ?_, ?_, ?_, ?_, by omega, by omega, fun q => ?_, fun q => ?_⟩
                  · intro b u e
                    rw [upd_ne (ne_of_none e nf0)]
                    exact same_new hp _ _ (s5 _ _ (s3 _ _ e))
                  · rw [upd_ne naf]
                    exact same_new hp _ _ (s5 _ _ hA3)
                  · rw [List.map_append]
                    refine LstD.more ?_ (LstD.same (same_new hp) (LstD.same s5 hL3)) (tok_dp (t := t) upd_same) ?_
                    · rw [upd_ne np]
                      exact hv
                    · have := flat_toks (ds ++ [t])
                      rwa [List.map_append] at this
                  · intro y hy
                    rcases List.mem_append.mp hy with h | h
                    · exact hok3 y h
                    · rw [List.mem_singleton.mp h]
                      exact hokt
                  · rw [List.length_append, List.length_singleton]
                    omega
                  · rw [Tk.lastNone_append, decide_eq_true_eq] at q
                    rw [hZ3, er, if_pos q]
                  · rw [Tk.lastNone_append, decide_eq_false_iff_not] at q
                    rw [hZ3, er, if_neg q, ek, List.append_assoc]
                    rfl
                obtain ⟨vs, hv, hD⟩ := id hL3
                have hvl := LstD.len hv hL3
                rw [List.length_map] at hvl
                tm_at "rd"
                refine bd (fun h7 => ?_) (fun h7 => ?_)
                · have hr0 : Tk.runOf (l.drop j) ≠ [] := fun e => by
                    rw [e] at hrn
                    simp only [List.length_nil] at hrn
                    omega
                  have eta : Tk.tokAt (l.drop j) = (Tk.sortOf (Tk.runOf (l.drop j)), rl) := by
                    unfold Tk.tokAt
                    rw [if_pos hr0, hrn]
                  have hall : (Tk.runOf (l.drop j)).all Tk.isRun = true := by
                    unfold Tk.runOf
                    exact List.all_takeWhile
                  have ecut : (l.drop j).take (j + rl - j) = Tk.runOf (l.drop j) := by
                    rw [show j + rl - j = rl by omega, pre1]
                  tm_at "rd"
                  refine ⟨.inl ⟨rfl, vs, SqL.of hv⟩, ?_⟩
                  tm_at "rd"
                  refine q_cut_tx (j := j + rl) (by omega) ?_
                  rw [ecut]
                  tm_at "rd"
                  refine ⟨Tk.runOf (l.drop j), rfl, by omega, hr0, hall, fun H5 s5 => ?_⟩
                  rw [Tk.sort_same hr0 hall]
                  tm_at "rd"
                  refine q_cut_tx (j := j + rl) (by omega) ?_
                  rw [ecut]
                  tm_at "rd"
                  intro p hp
                  have np : f ≠ p := ne_of_none (s5 _ _ hv) hp
                  refine ⟨f, vs, .ref p, rfl, rfl, by rw [upd_ne np]; exact s5 _ _ hv, Nat.lt_of_le_of_lt (show vs.length ≤ 5000000 by omega) (by decide), ?_⟩
                  exact more _ _ _ p vs H5 _ (by rw [eta, pre1]) (by rw [eta]) s5 hp (s5 _ _ hv)
                · have hr0 : Tk.runOf (l.drop j) = [] := by
                    apply List.length_eq_zero_iff.mp
                    omega
                  have n0 : ¬ Tk.runOf (l.drop j) ≠ [] := fun z => z hr0
                  tm_at "rd"
                  refine q_cut_tx (j := j + 2) (by omega) ?_
                  tm_at "rd"
                  intro g ng
                  have sg1 := same_new (o := .tup [.str (tx (cs "->")), .str (tx (cs "::"))]) ng
                  refine q_in_txs (ys := [cs "->", cs "::"]) (.inr (SqT.of upd_same)) ?_
                  rw [show j + 2 - j = 2 by omega, two_eq]
                  tm_at "rd"
                  have fin3 : True := trivial
                  refine biff (fun h8 => ?_) (fun h8 => ?_)
                  · have eta : Tk.tokAt (l.drop j) = (Tk.sSign, 2) := by
                      unfold Tk.tokAt
                      rw [if_neg n0, if_pos h8]
                    have el : ((l.drop j).take 2).length = 2 := by
                      rw [eta] at hk2
                      rw [List.length_take, List.length_drop]
                      omega
                    tm_at "rd"
                    refine q_cut_tx (j := j + 2) (by omega) ?_
                    rw [show j + 2 - j = 2 by omega]
                    tm_at "rd"
                    refine ⟨.inl ⟨rfl, vs, SqL.of (sg1 _ _ hv)⟩, ?_⟩
                    tm_at "rd"
                    refine bd_t (by rw [el]; decide) ?_
                    tm_at "rd"
                    intro p hp
                    have np : f ≠ p := ne_of_none (sg1 _ _ hv) hp
                    refine ⟨f, vs, .ref p, rfl, rfl, by rw [upd_ne np]; exact sg1 _ _ hv, Nat.lt_of_le_of_lt (show vs.length ≤ 5000000 by omega) (by decide), ?_⟩
                    exact more _ _ (j + 2) p vs _ _ (by rw [eta]; rfl) (by rw [eta]) sg1 hp (sg1 _ _ hv)
                  · have e2 : (l.drop j).take 1 = [z] := by rw [hd]; rfl
                    have n8 : ¬ Tk.isTwo (l.drop j) = true := by rw [h8]; exact Bool.false_ne_true
                    have e3 : Tk.singles.contains ((l.drop j).headD 0) = decide (z ∈ cs "()[],:=<+-*|") := by rw [mem_singles, hd]; rfl
                    tm_at "rd"
                    refine q_cut_tx (j := j + 1) (by omega) ?_
                    rw [show j + 1 - j = 1 by omega, e2]
                    tm_at "rd"
                    refine ⟨.inl ⟨rfl, vs, SqL.of (sg1 _ _ hv)⟩, ?_⟩
                    tm_at "rd"
                    refine q_len_tx (l := [z]) (show 1 ≤ 100000 by decide) ?_
                    tm_at "rd"
                    refine bd_f (show ¬ (1 : Int) < 1 by decide) ?_
                    tm_at "rd"
                    refine biff (fun h9 => ?_) (fun h9 => ?_)
                    · have eta : Tk.tokAt (l.drop j) = (Tk.sSign, 1) := by
                        unfold Tk.tokAt
                        rw [if_neg n0, if_neg n8, e3, if_pos h9]
                      tm_at "rd"
                      intro p hp
                      have np : f ≠ p := ne_of_none (sg1 _ _ hv) hp
                      refine ⟨f, vs, .ref p, rfl, rfl, by rw [upd_ne np]; exact sg1 _ _ hv, Nat.lt_of_le_of_lt (show vs.length ≤ 5000000 by omega) (by decide), ?_⟩
                      exact more _ _ (j + 1) p vs _ _ (by rw [eta, e2]; rfl) (by rw [eta]) sg1 hp (sg1 _ _ hv)
                    · have eta : Tk.tokAt (l.drop j) = (Tk.sNone, 1) := by
                        unfold Tk.tokAt
                        rw [if_neg n0, if_neg n8, e3, if_neg (by rw [h9]; exact Bool.false_ne_true)]
                      tm_at "rd"
                      intro p hp
                      have np : f ≠ p := ne_of_none (sg1 _ _ hv) hp
                      refine ⟨f, vs, .ref p, rfl, rfl, by rw [upd_ne np]; exact sg1 _ _ hv, Nat.lt_of_le_of_lt (show vs.length ≤ 5000000 by omega) (by decide), ?_⟩
                      exact more _ _ (j + 1) p vs _ _ (by rw [eta, e2]; rfl) (by rw [eta]) sg1 hp (sg1 _ _ hv)
            · rintro σ H5 ⟨k, es, o6, rfl, s5, hA5, hL5, hok5, hlen5, hk, hjk, hz5, hn5⟩
              tm_at "rd"
              intro e ne
              have s6 := same_new (o := .lst []) ne
              have s56 := s5.trans s6
              have hL6 := LstD.same s6 hL5
              have hA6 := s6 _ _ hA5
              have done_ : Tk.lastNone es = false → (∃ (j : Nat) (ds : List Tk.T) (o4 o5 : Option V), [some (V.str (tx x)), some (V.ref f), some (V.ref a), some (V.int (i : Int)), some (V.str (tx l)), some (V.int (k : Int)), some (V.int (k : Int)), o6] = [some (.str (tx x)), some (.ref f), some (.ref a), some (.int (i : Int)), some (.str (tx l)), some (.int (j : Int)), o4, o5] ∧ Same H (upd H5 e (.lst [])) ∧
                (upd H5 e (.lst [])) a = some (.lst ((Tk.linesOf x).map fun y => V.str (tx y))) ∧ LstD K (upd H5 e (.lst [])) f (ds.map tokD) ∧ (∀ t ∈ ds, okT 4000 t) ∧ ds.length ≤ 2000 * i + j ∧ j ≤ l.length ∧ Tk.lastNone ds = false ∧ Z = ds ++ Tk.row1 i (l.drop j) j) ∧ l.length - (k : Int).toNat < l.length - (j : Int).toNat := fun q =>
                ⟨⟨k, es, _, _, rfl, s56, hA6, hL6, hok5, hlen5, hk, q, hn5 q⟩, by omega⟩
              refine q_ne_dat (LstD.dp hL6) (.lst (SqL.of upd_same) .nil) (toks_shaped _ hok5) (by rfl) ?_
              rw [eqv_nil]
              rcases List.eq_nil_or_concat es with h0 | ⟨ini, t, h0⟩
              · subst h0
                tm_at "rd"
                exact done_ rfl
              · rw [List.concat_eq_append] at h0
                subst h0
                have e1 : ((ini ++ [t]).map tokD).isEmpty = false := by simp
                rw [e1]
                tm_at "rd"
                obtain ⟨us, q2, hu1, hu2⟩ := last_tok hL6
                refine q_ix_lst (SqL.of hu1) (atI_last _ _) ?_
                tm_at "rd"
                refine q_ix_tup hu2 rfl ?_
                tm_at "rd"
                rw [Tk.lastNone_append] at hz5 done_
                refine bd (fun h8 => ?_) (fun h8 => ?_)
                · have ez := hz5 (decide_eq_true h8)
                  have eT : Tk.toksOf x = ini ++ [t] := by
                    rw [hTi, ez, Tk.lastNone_append, decide_eq_true (show t.sort = Tk.sNone from h8)]
                    rfl
                  tm_at "rd"
                  rw [eT] at k'
                  exact k' _ f s56 nf0 hok5 (Nat.le_trans hlen5 (by omega)) hL6
                · tm_at "rd"
                  exact done_ (decide_eq_false h8)
        · have e : z = 35 := by simpa using h5
          subst e
          tm_at "rd"
          exact fin (by rw [hd, Tk.row1_hash])
      · tm_at "rd"
        exact fin (by rw [List.drop_eq_nil_of_le (by omega), Tk.row1_nil])
    · rintro σ H1 ⟨acc, o1, o2, o3, o4, o5, rfl, s1, hA, hL, hok, hlen, hnn, hT⟩
      rw [List.length_map, List.drop_length] at hT
      rw [List.length_map] at hlen
      have hT' : Tk.toksOf x = acc ++ [Tk.endOf x] := hT
      have okE : okT 4000 (Tk.endOf x) := end_ok x hz
      tm_at "rd"
      have hne : 1 ≤ (Tk.linesOf x).length := List.length_pos_iff.mpr (Tk.linesOf_ne x)
      refine q_len_lst (SqL.of hA) ?_
      tm_at "rd"
      have elast : ((Tk.linesOf x).map fun y => V.str (tx y)) = ((Tk.linesOf x).dropLast.map fun y => V.str (tx y)) ++ [V.str (tx ((Tk.linesOf x).getLast (Tk.linesOf_ne x)))] := by
        have e := congrArg (List.map fun y => V.str (tx y)) (List.dropLast_concat_getLast (Tk.linesOf_ne x))
        rw [List.map_append] at e
        exact e.symm
      refine q_ix_lst (SqL.of hA) (by rw [elast]; exact atI_last _ _) ?_
      tm_at "rd"
      refine q_len_tx (Nat.le_trans (hll.2 _ (List.getLast_mem (Tk.linesOf_ne x))) (by omega)) ?_
      tm_at "rd"
      intro p np
      tm_at "rd"
      intro q nq
      have erow : (((Tk.linesOf x).map fun y => V.str (tx y)).length : Int) - 1 = ((Tk.endOf x).row : Int) := by
        rw [List.length_map]
        show ((Tk.linesOf x).length : Int) - 1 = (((Tk.linesOf x).length - 1 : Nat) : Int)
        omega
      rw [erow] at nq ⊢
      have e0 : cs "" = [] := by decide
      have s2 := same_new (o := .tup [.str (tx (cs "end")), .str (tx (cs "")), .int ((Tk.endOf x).row : Int), .int (((Tk.linesOf x).getLast (Tk.linesOf_ne x)).length : Int)]) np
      have s3 := same_new (o := .lst [V.ref p]) nq
      obtain ⟨us, hu, hD⟩ := LstD.same s3 (LstD.same s2 hL)
      have hul := DpAll.length hD
      rw [List.length_map] at hul
      have hbig : acc.length ≤ 2000 * 2001 := Nat.le_trans hlen (Nat.mul_le_mul_left _ (by omega))
      refine q_add_lst hu upd_same ?_ (fun r nr => ?_)
      · show us.length + 1 ≤ 10000000
        omega
      · have s4 := same_new (o := .lst (us ++ [.ref p])) nr
        have s04 := ((s1.trans s2).trans s3).trans s4
        refine k' _ r s04 (((s1.trans s2).trans s3).free nr) ?_ ?_ ?_
        · rw [hT']
          intro t ht
          rcases List.mem_append.mp ht with h | h
          · exact hok t h
          · rw [List.mem_singleton.mp h]
            exact okE
        · rw [hT', List.length_append, List.length_singleton]
          omega
        · rw [hT', List.map_append]
          refine ⟨_, upd_same, DpAll.same s4 (DpAll.app hD (.cons (Dp.same s3 (tok_dp (t := Tk.endOf x) ?_)) .nil))⟩
          rw [upd_same]
          rfl
end
end K15

set_option maxHeartbeats 4000000
/-! W15g: the law's pieces, texts laid of them. -/
namespace K15
open PySem PySem.Spec PyProof.Rows L2 TL Ak
local macro_rules | `(tactic| tm_at "rd1") => `(tactic| with_reducible first
  | refine r_seq ?_ | refine r_ifS ?_ | refine r_ret ?_ | refine r_asg ?_ | refine r_next ?_ | refine r_drop ?_ | refine r_par ?_ | refine r_brk ?_ | refine r_cont ?_
  | refine r_op ?_ | refine r_c ?_ | refine r_cb ?_ | refine r_cons ?_ | refine r_nil ?_ | refine r_un ?_ | refine r_tB ?_ | refine r_test ?_ | refine r_not ?_ | refine r_and ?_ | refine r_or ?_ | refine r_andV ?_ | refine r_orV ?_ | refine r_notV ?_ | refine r_if ?_ | refine r_chain ?_
  | refine r_tup ?_ | refine r_lst ?_ | refine r_sl ?_ | refine r_part ?_ | refine r_nopart ?_ | refine r_call ?_ | refine r_callK ?_ | refine r_bm ?_ | refine r_bm0 ?_ | refine r_m1 ?_ | refine r_m0 ?_ | refine r_isN ?_ | refine r_notN ?_
  | refine r_gcons ?_ | refine r_gnil ?_ | refine r_gsub ?_ | refine r_name ?_ | refine r_ilist ?_ | refine r_itup ?_ | refine r_istr ?_ | refine r_irng1 ?_ | refine r_ienum ?_ | refine r_mko ?_ | refine r_yes ?_ | refine r_lc ?_ | refine r_for ?_ | refine turn_i ?_
  | refine r_bl ?_ | refine r_int ?_ | refine r_two ?_ | refine r_str ?_ | refine r_two1 ?_
  | refine b_t ?_ | refine b_f ?_ | refine b_nt ?_ | refine b_nf ?_ | refine q_isi_str ?_ | refine q_u ?_ | refine q_i0 ?_ | refine q_ipI ?_ | refine q_add_int ?_ | refine q_eq_int ?_ | refine q_ne_int ?_ | refine q_eq_tx ?_ | refine q_ne_tx ?_ | refine q_in_sg ?_ | refine q_ni_sg ?_)
local macro_rules | `(tactic| tm_at "rd2") => `(tactic| first
  | tm_at "rd1" | refine r_var rfl ?_ | refine r_aug rfl ?_ 
  | refine And.intro (small_n (by simp)) ?_ | tm_at "rdl")
local macro_rules | `(tactic| tm_at "rdl") => `(tactic| first | (with_reducible refine q_len_tx (by assumption) ?_) | (with_reducible refine q_len_tx (by omega) ?_))
local macro_rules | `(tactic| tm_at "rd") => `(tactic| repeat tm_at "rd2")

section
variable {P : Program} {w : World} {K : PySem.W.Frag} {mg : Str → Option Value} {base : Heap}
/-! ### _law_pieces, _law_nones -/
def pieceD (x : List Nat × List Nat) : PyData := .tuple [.str (tx x.1), .str (tx x.2)]
def sp_pieces (K : PySem.W.Frag) : Sp := fun vs H Q _ => vs = [] ∧ ∀ H' p, Same H H' → H p = none → LstD K H' p (Tk.pieces.map pieceD) → Q (.ref p) H'
def pw (s : List Nat) : V → PyData := fun v => match v with | .str z => .tuple [.str (tx s), .str z] | _ => .str (tx [])
/-- one row of pieces: [(s, one) for one in ..] -/
theorem lc_row {σ : L2.St} {te : TE} {H1 : Hp} {p D : Addr} {Qd : Hp → Prop} (s : String) (L : List String) (hL : L.length ≤ 100) (hS : SqL K H1 p (L.map fun y => V.str (tx (cs y))))
    (he : ∀ (y : List Nat) (H : Hp) (Q : VK), (∀ q, H q = none → Q (.ref q) (upd H q (.tup [.str (tx (cs s)), .str (tx y)]))) → te ((wipe σ [1]).set 1 (some (.str (tx y)))) H Q)
    (hD : H1 D = none) (hd : ∀ H', Same H1 H' → LstD K H' D (L.map fun y => pieceD (cs s, cs y)) → Qd H') :
    ∃ W : Nat → Nat → Hp → Prop, (∃ m, W 0 m (upd H1 D (.lst []))) ∧ ∀ j m H, W j m H →
      ((Itl K p).stop j H ∧ Qd H) ∨ ((Itl K p).go j H ∧ ∃ Nx : Hp → Prop, (∀ H', Nx H' → ∃ m', m' < m ∧ W (j + 1) m' H') ∧ ∀ x H', (Itl K p).yld j H x H' → gName 1 x (wipe σ [1]) H' fun σ2 H2 => wipe σ2 [1] = wipe σ [1] ∧ tYes σ2 H2 fun b H3 =>
        if b = true then te σ2 H3 fun y H4 => ∃ acc, H4 D = some (.lst acc) ∧ acc.length < sizeLine ∧ Nx (upd H4 D (.lst (acc ++ [y]))) else Nx H3) := by
  have em : ((L.map fun y => V.str (tx (cs y))).map (pw (cs s))) = L.map fun y => pieceD (cs s, cs y) := by rw [List.map_map]; rfl
  refine lc_dat (K := K) (walk_list (K := K) (a := p) (xs := L.map fun y => V.str (tx (cs y)))) (pw (cs s)) (by rw [List.length_map]; exact Nat.lt_of_le_of_lt hL (by decide)) (fun H s1 => s1.seq hS) ?_ (fun x _ H Q _ q => q) (fun x hx H Q _ q => ?_) hD (fun H' s1 h => hd H' s1 (by rwa [em] at h))
  · rw [em]
    clear hL hS hd em
    induction L with
    | nil => rfl
    | cons y L ih => show (flatD (pieceD (cs s, cs y)) && flatDs _) = true; rw [ih]; rfl
  · obtain ⟨y, _, rfl⟩ := List.mem_map.mp hx
    exact he _ _ _ fun a ha => q _ _ (same_new ha) (.tup (SqT.of upd_same) (.cons (.str _) (.cons (.str _) .nil)))
theorem ok_pieces (T : Tx K mg) : FnOk P w K mg base CX0 1 T.f__law_pieces T.fd__law_pieces [] (sp_pieces K) := by
  refine T.d__law_pieces.F.ok sc__law_pieces (fun vs H Q E h => ?_) (fun cdv A outer s H vs Q E hr h => ?_)
  · obtain ⟨rfl, _⟩ := h
    rfl
  · obtain ⟨rfl, k⟩ := h
    have hu := hu_of hr
    have hu64 := hr.units
    refine ⟨_, (pss_cons (ps_set (i := 0) sc__law_pieces.nd rfl (Or.inl rfl) (pe_op (opAdd (K := K) rfl) (pe_lc (own := [("one", 1)]) (g := gName 1) rfl sc__law_pieces.nd (pi_list (pe_lst (pa_cons (pe_lit "let") (pa_cons (pe_lit "in") (pa_cons (pe_lit "int") (pa_cons (pe_lit "module") (pa_cons (pe_lit "use") (pa_cons (pe_lit "true") (pa_cons (pe_lit "fst") (pa_cons (pe_lit "return") pa_nil)))))))))) (blkOk_by (own := [("one", 1)]) (N := nm__law_pieces) (sc := defScope s__law_pieces) (by decide +kernel)) (fun _ _ _ _ _ => pg_name (i := 1) sc__law_pieces.nd rfl (Or.inl rfl)) (fun _ _ _ _ _ => pts_nil) (fun _ _ _ _ _ => (pe_tup (pa_cons (pe_lit "word") (pa_cons (pv 1) pa_nil))))) (pe_lc (own := [("one", 1)]) (g := gName 1) rfl sc__law_pieces.nd (pi_list (pe_lst (pa_cons (pe_lit "a") (pa_cons (pe_lit "lets") (pa_cons (pe_lit "x_1") (pa_cons (pe_lit "in2") (pa_cons (pe_lit "abcdefghijkl") (pa_cons (pe_lit "a9") pa_nil)))))))) (blkOk_by (own := [("one", 1)]) (N := nm__law_pieces) (sc := defScope s__law_pieces) (by decide +kernel)) (fun _ _ _ _ _ => pg_name (i := 1) sc__law_pieces.nd rfl (Or.inl rfl)) (fun _ _ _ _ _ => pts_nil) (fun _ _ _ _ _ => (pe_tup (pa_cons (pe_lit "name") (pa_cons (pv 1) pa_nil)))))))
      (pss_cons (ps_set (i := 0) sc__law_pieces.nd rfl (Or.inl rfl) (pe_op (opAdd (K := K) rfl) (pe_op (opAdd (K := K) rfl) (pv 0) (pe_lc (own := [("one", 1)]) (g := gName 1) rfl sc__law_pieces.nd (pi_list (pe_lst (pa_cons (pe_lit "A") (pa_cons (pe_lit "Go") (pa_cons (pe_lit "X9y") (pa_cons (pe_lit "ABCDEFGHIJKL") pa_nil)))))) (blkOk_by (own := [("one", 1)]) (N := nm__law_pieces) (sc := defScope s__law_pieces) (by decide +kernel)) (fun _ _ _ _ _ => pg_name (i := 1) sc__law_pieces.nd rfl (Or.inl rfl)) (fun _ _ _ _ _ => pts_nil) (fun _ _ _ _ _ => (pe_tup (pa_cons (pe_lit "ask") (pa_cons (pv 1) pa_nil)))))) (pe_lc (own := [("one", 1)]) (g := gName 1) rfl sc__law_pieces.nd (pi_list (pe_lst (pa_cons (pe_lit "0") (pa_cons (pe_lit "7") (pa_cons (pe_lit "007") (pa_cons (pe_lit "123456789012345678901") pa_nil)))))) (blkOk_by (own := [("one", 1)]) (N := nm__law_pieces) (sc := defScope s__law_pieces) (by decide +kernel)) (fun _ _ _ _ _ => pg_name (i := 1) sc__law_pieces.nd rfl (Or.inl rfl)) (fun _ _ _ _ _ => pts_nil) (fun _ _ _ _ _ => (pe_tup (pa_cons (pe_lit "figures") (pa_cons (pv 1) pa_nil)))))))
      (pss_one (ps_ret (pe_op (opAdd (K := K) rfl) (pv 0) (pe_lc (own := [("one", 1)]) (g := gName 1) rfl sc__law_pieces.nd (pi_list (pe_lst (pa_cons (pe_lit "(") (pa_cons (pe_lit ")") (pa_cons (pe_lit "[") (pa_cons (pe_lit "]") (pa_cons (pe_lit ",") (pa_cons (pe_lit ":") (pa_cons (pe_lit "=") (pa_cons (pe_lit "<") (pa_cons (pe_lit "+") (pa_cons (pe_lit "*") (pa_cons (pe_lit "|") (pa_cons (pe_lit "->") (pa_cons (pe_lit "::") (pa_cons (pe_lit "-") pa_nil)))))))))))))))) (blkOk_by (own := [("one", 1)]) (N := nm__law_pieces) (sc := defScope s__law_pieces) (by decide +kernel)) (fun _ _ _ _ _ => pg_name (i := 1) sc__law_pieces.nd rfl (Or.inl rfl)) (fun _ _ _ _ _ => pts_nil) (fun _ _ _ _ _ => (pe_tup (pa_cons (pe_lit "sign") (pa_cons (pv 1) pa_nil)))))))))), ?_⟩
    tm_at "rd"
    intro p1 n1
    refine ⟨p1, rfl, ⟨_, SqL.of upd_same⟩, fun d1 m1 => ?_⟩
    refine lc_row "word" ["let", "in", "int", "module", "use", "true", "fst", "return"] (by decide) (SqL.of upd_same) (fun y H Q q => ?_) m1 (fun H1 s1 L1 => ?_)
    · tm_at "rd"
      exact q
    have t1 : Same H H1 := (same_new n1).trans s1
    tm_at "rd"
    intro p2 n2
    refine ⟨p2, rfl, ⟨_, SqL.of upd_same⟩, fun d2 m2 => ?_⟩
    refine lc_row "name" ["a", "lets", "x_1", "in2", "abcdefghijkl", "a9"] (by decide) (SqL.of upd_same) (fun y H Q q => ?_) m2 (fun H2 s2 L2 => ?_)
    · tm_at "rd"
      exact q
    refine q_add_d (K := K) (LstD.same ((same_new n2).trans s2) L1) L2 (by decide) (fun e2 G2 f2 r2 M2 => ?_)
    have t2 : Same H G2 := t1.trans (((same_new n2).trans s2).trans r2)
    tm_at "rd"
    intro p3 n3
    refine ⟨p3, rfl, ⟨_, SqL.of upd_same⟩, fun d3 m3 => ?_⟩
    refine lc_row "ask" ["A", "Go", "X9y", "ABCDEFGHIJKL"] (by decide) (SqL.of upd_same) (fun y H Q q => ?_) m3 (fun H3 s3 L3 => ?_)
    · tm_at "rd"
      exact q
    refine q_add_d (K := K) (LstD.same ((same_new n3).trans s3) M2) L3 (by decide) (fun e3 G3 f3 r3 M3 => ?_)
    have t3 : Same H G3 := t2.trans (((same_new n3).trans s3).trans r3)
    tm_at "rd"
    intro p4 n4
    refine ⟨p4, rfl, ⟨_, SqL.of upd_same⟩, fun d4 m4 => ?_⟩
    refine lc_row "figures" ["0", "7", "007", "123456789012345678901"] (by decide) (SqL.of upd_same) (fun y H Q q => ?_) m4 (fun H4 s4 L4 => ?_)
    · tm_at "rd"
      exact q
    refine q_add_d (K := K) (LstD.same ((same_new n4).trans s4) M3) L4 (by decide) (fun e4 G4 f4 r4 M4 => ?_)
    have t4 : Same H G4 := t3.trans (((same_new n4).trans s4).trans r4)
    tm_at "rd"
    intro p5 n5
    refine ⟨p5, rfl, ⟨_, SqL.of upd_same⟩, fun d5 m5 => ?_⟩
    refine lc_row "sign" ["(", ")", "[", "]", ",", ":", "=", "<", "+", "*", "|", "->", "::", "-"] (by decide) (SqL.of upd_same) (fun y H Q q => ?_) m5 (fun H5 s5 L5 => ?_)
    · tm_at "rd"
      exact q
    refine q_add_d (K := K) (LstD.same ((same_new n5).trans s5) M4) L5 (by decide) (fun e5 G5 f5 r5 M5 => ?_)
    have t5 : Same H G5 := t4.trans (((same_new n5).trans s5).trans r5)
    exact k _ _ t5 ((t4.trans ((same_new n5).trans s5)).free f5) M5
def sp_nones (K : PySem.W.Frag) : Sp := fun vs H Q _ => vs = [] ∧ ∀ H' p, Same H H' → H p = none → H' p = some (.lst (Tk.nones.map fun y => V.str (tx y))) → Q (.ref p) H'
theorem ok_nones (T : Tx K mg) : FnOk P w K mg base CX0 1 T.f__law_nones T.fd__law_nones [] (sp_nones K) := by
  refine T.d__law_nones.F.ok sc__law_nones (fun vs H Q E h => ?_) (fun cdv A outer s H vs Q E hr h => ?_)
  · obtain ⟨rfl, _⟩ := h
    rfl
  · obtain ⟨rfl, k⟩ := h
    have hu := hu_of hr
    have hu64 := hr.units
    refine ⟨_, (pss_one (ps_ret (pe_lst (pa_cons (pe_lit "abcdefghijklm") (pa_cons (pe_lit "aB") (pa_cons (pe_lit "A_b") (pa_cons (pe_lit "_a") (pa_cons (pe_lit "9a") (pa_cons (pe_lit "1_") (pa_cons (pe_lit "Abcdefghijklm") (pa_cons (pe_lit "$") (pa_cons (pe_lit ".") (pa_cons (pe_lit "?") (pa_cons (pe_lit ";") (pa_cons (pe_lit "@") (pa_cons (pe_lit "!") (pa_cons (pe_lit "{") (pa_cons (pe_lit ">") (pa_cons (pe_lit "/") pa_nil))))))))))))))))))), ?_⟩
    tm_at "rd"
    intro p hp
    exact k _ p (same_new hp) hp upd_same
/-! ### _law_laid -/
theorem Pot.keepT {p c : Addr} {H H' : Hp} (h : Pot H p c) (s : PS2 p c H H') : KeepT H H' := by
  obtain ⟨cells, cur, seed, h1, h2, _⟩ := h
  intro b o hb hn
  refine s b o hb (fun e => ?_) (fun e => ?_)
  · rw [e, h1] at hb
    exact hn _ (Option.some.inj hb).symm
  · rw [e, h2] at hb
    exact hn _ (Option.some.inj hb).symm
theorem LstD.ps2 {p c a : Addr} {H H' : Hp} {ds : List PyData} (h : LstD K H a ds) (hP : Pot H p c) (s : PS2 p c H H') (n1 : a ≠ p) (n2 : a ≠ c) (f : flatDs ds = true) : LstD K H' a ds := by
  obtain ⟨vs, hv, hD⟩ := h
  exact ⟨vs, s _ _ hv n1 n2, DpAll.keep (hP.keepT s) hD f⟩
theorem dp_piece {H : Hp} {v : V} {x : List Nat × List Nat} (h : Dp K H v (pieceD x)) : ∃ q, v = .ref q ∧ SqT K H q [.str (tx x.1), .str (tx x.2)] := by
  cases h with
  | @tup a xs ds hs ha =>
    refine ⟨a, rfl, ?_⟩
    cases ha with
    | cons a1 r1 => cases r1 with
      | cons a2 r2 =>
        cases r2
        cases a1
        cases a2
        exact hs
def sp_laid (K : PySem.W.Frag) : Sp := fun vs H Q _ => ∃ (p c : Addr) (m : Nat), vs = [.ref p, .int (m : Int)] ∧ Pot H p c ∧ m ≤ 40 ∧
  ∀ H' q f n t L, Pot H' p c → PS2 p c H H' → n ≤ m → Tk.Laid n t L → SqT K H' q [.str (tx t), .ref f] → LstD K H' f (L.map tokD) → H f = none → Q (.ref q) H'
theorem ok_laid (T : Tx K mg) : FnOk P w K mg base CX0 3 T.f__law_laid T.fd__law_laid ["pot", "many"] (sp_laid K) := by
  have G__law_pick := ok_pick (P := P) (w := w) (base := base) T
  have G__law_pieces := ok_pieces (P := P) (w := w) (base := base) T
  have b__law_pick := T.d__law_pick.F.binds (ps := ["pot", "some"]) fun _ _ _ _ _ _ us hl => match us, hl with | [_, _], _ => rfl
  have b__law_pieces := T.d__law_pieces.F.binds (ps := []) fun _ _ _ _ _ _ us hl => match us, hl with | [], _ => rfl
  refine T.d__law_laid.F.ok sc__law_laid (fun vs H Q E h => ?_) (fun cdv A outer s H vs Q E hr h => ?_)
  · obtain ⟨p, c, m, rfl, _⟩ := h
    rfl
  · obtain ⟨p, c, m, rfl, hP, hm, k⟩ := h
    have hu := hu_of hr
    have hu64 := hr.units
    refine ⟨_, (pss_cons (ps_par (i := 2) (j := 3) rfl sc__law_laid.nd rfl rfl (by decide) rfl rfl (pa_cons (pe_lit "") (pa_cons (pe_lst pa_nil) pa_nil)) (by rfl))
      (pss_cons (ps_for PassesOwn.never rfl (pi_range1 (by rfl) T.n_range (pa_cons (pv 1) pa_nil)) (pg_name (i := 4) sc__law_laid.nd rfl (Or.inl rfl)) (pss_cons (ps_set (i := 2) sc__law_laid.nd rfl (Or.inl rfl) (pe_op (opAdd (K := K) rfl) (pv 2) (pe_call G__law_pick (hr.mono (by decide)) rfl T.d__law_pick.g T.d__law_pick.F.kp b__law_pick .nil pass0 (pa_cons (pv 0) (pa_cons (pe_lst (pa_cons (pe_lit " ") (pa_cons (pe_lit "  ") (pa_cons (pe_lit "\n") (pa_cons (pe_lit "\n  ") (pa_cons (pe_lit "#a ( 9x\n") (pa_cons (pe_lit " # so\n\n") pa_nil))))))) pa_nil)))))
      (pss_cons (ps_asg (pe_call G__law_pick (hr.mono (by decide)) rfl T.d__law_pick.g T.d__law_pick.F.kp b__law_pick .nil pass0 (pa_cons (pv 0) (pa_cons (pe_call0 G__law_pieces (hr.mono (by decide)) rfl T.d__law_pieces.g T.d__law_pieces.F.kp b__law_pieces .nil pass0) pa_nil))) (pg_tup rfl (pgs_cons (pg_name (i := 5) sc__law_laid.nd rfl (Or.inl rfl)) (pgs_cons (pg_name (i := 6) sc__law_laid.nd rfl (Or.inl rfl)) pgs_nil))))
      (pss_cons (ps_expr (pe_bm PySem.F.plainAttrs_list PySem.F.slot_list_append PySem.F.type_list_append mt_append (pv 3) (pa_cons (pe_tup (pa_cons (pv 5) (pa_cons (pv 6) (pa_cons (pe_m1 PySem.F.slot_str_count PySem.F.type_str_count mt_count (pv 2) (pe_lit "\n")) (pa_cons (pe_callB (caLen (K := K) rfl) (by rfl) T.n_len (by decide +kernel) (pa_cons (pe_ix (ixAny (K := K) rfl) (pe_split (pv 2) (pe_lit "\n")) (pe_un un_neg pe_int) (fun _ _ => rfl)) pa_nil)) pa_nil))))) pa_nil)))
      (pss_one (ps_set (i := 2) sc__law_laid.nd rfl (Or.inl rfl) (pe_op (opAdd (K := K) rfl) (pv 2) (pv 6))))))))
      (pss_one (ps_ret (pe_tup (pa_cons (pv 2) (pa_cons (pv 3) pa_nil))))))), ?_⟩
    tm_at "rd"
    intro f nf
    tm_at "rd"
    have npc := hP.ne nf
    have sF := same_new (o := .lst []) nf
    have ecs : cs "\n" = [10] := by decide
    have e0 : cs "" = [] := by decide
    have l1 : ∀ x ∈ Tk.seps, x.length ≤ 8 := by decide
    have l2 : ∀ x ∈ Tk.pieces, x.2.length ≤ 21 := by decide +kernel
    have hfl : ∀ ts : List Tk.T, flatDs (ts.map tokD) = true := flat_toks
    refine ⟨_, rfl, by omega, by omega, ?_⟩
    refine for_it walk_range (fun i σ H1 => ∃ (t : List Nat) (L : List Tk.T) (o1 o2 o3 : Option V), σ = [some (.ref p), some (.int (m : Int)), some (.str (tx t)), some (.ref f), o1, o2, o3] ∧ PS2 p c H H1 ∧ Pot H1 p c ∧ Tk.Laid i t L ∧ LstD K H1 f (L.map tokD))
      ⟨[], [], none, none, none, rfl, .of sF, hP.same sF, .nil, ⟨[], upd_same, .nil⟩⟩ (fun _ _ _ _ _ => trivial) ?_ ?_
    · rintro i x σ H0 H1 hi ⟨t, L, o1, o2, o3, rfl, s1, hP1, hLd, hL⟩ ⟨rfl, rfl⟩
      have hlen := Tk.laid_length hLd
      have hi' : i < m := by simpa using hi
      tm_at "rd"
      intro a1 n1
      have ne1 := hP1.ne n1
      refine ⟨p, c, a1, Tk.seps.map fun y => V.str (tx y), rfl, hP1.same (same_new n1), SqL.of upd_same, ne1.1, ne1.2, by decide, by decide, fun H3 x hP3 s3 hx => ?_⟩
      obtain ⟨sep, hsep, rfl⟩ := List.mem_map.mp hx
      have hsl := l1 _ hsep
      have s13 : PS2 p c H1 H3 := (PS2.of (same_new n1)).trans s3
      have hL3 := LstD.ps2 hL hP1 s13 npc.1 npc.2 (hfl _)
      refine q_add_tx (by omega) ?_
      tm_at "rd"
      refine ⟨rfl, fun H4 a4 s4 n4 hL4 => ?_⟩
      tm_at "rd"
      have ne4 := hP3.ne n4
      obtain ⟨vs, hv, hD⟩ := hL4
      have hvl := DpAll.length hD
      have hpl : (Tk.pieces.map pieceD).length = 36 := by decide +kernel
      rw [hpl] at hvl
      refine ⟨p, c, a4, vs, rfl, hP3.same s4, SqL.of hv, ne4.1, ne4.2, (fun e => by rw [e] at hvl; cases hvl), by omega, fun H5 x hP5 s5 hx => ?_⟩
      obtain ⟨d, hd, hDx⟩ := DpAll.mem hD hx
      obtain ⟨⟨srt, pc⟩, hpc, rfl⟩ := List.mem_map.mp hd
      have hpl2 := l2 _ hpc
      obtain ⟨q, rfl, hq⟩ := dp_piece (Dp.keep ((hP3.same s4).keepT s5) hDx (by rfl))
      have hL5 := LstD.ps2 (LstD.same s4 hL3) (hP3.same s4) s5 npc.1 npc.2 (hfl _)
      refine r_gtup hq rfl ?_
      tm_at "rd"
      obtain ⟨us, hu5, hD5⟩ := id hL5
      have hul := DpAll.length hD5
      rw [List.length_map] at hul
      refine ⟨.inl ⟨rfl, us, SqL.of hu5⟩, ?_⟩
      tm_at "rd"
      refine ⟨_, _, rfl, rfl, ?_⟩
      rw [ecs, Tk.count_lines]
      tm_at "rd"
      refine ⟨tx (t ++ sep), tx (cs "\n"), rfl, rfl, rfl, ?_, ?_⟩
      · rw [len_tx, List.length_append]
        exact Nat.le_trans (show t.length + sep.length + 2 ≤ 3000 by omega) (by decide)
      unfold rNewStrs
      rw [ecs, Tk.split_lines]
      intro a6 n6
      have hll := Tk.lines_len (t ++ sep)
      have hlen2 : (t ++ sep).length ≤ 1608 := by rw [List.length_append]; omega
      have elast : ((Tk.linesOf (t ++ sep)).map fun y => V.str (tx y)) = ((Tk.linesOf (t ++ sep)).dropLast.map fun y => V.str (tx y)) ++ [V.str (tx ((Tk.linesOf (t ++ sep)).getLast (Tk.linesOf_ne (t ++ sep))))] := by
        have e := congrArg (List.map fun y => V.str (tx y)) (List.dropLast_concat_getLast (Tk.linesOf_ne (t ++ sep)))
        rw [List.map_append] at e
        exact e.symm
      tm_at "rd"
      refine q_ix_lst (SqL.of upd_same) (by rw [elast]; exact atI_last _ _) ?_
      tm_at "rd"
      refine q_len_tx (Nat.le_trans (hll.2 _ (List.getLast_mem (Tk.linesOf_ne _))) (by omega)) ?_
      tm_at "rd"
      rw [← Tk.posn_col' (t ++ sep)]
      intro a7 n7
      have s6 := same_new (o := .lst ((Tk.linesOf (t ++ sep)).map fun y => V.str (tx y))) n6
      have s7 := same_new (o := .tup [.str (tx srt), .str (tx pc), .int ((Tk.posn (t ++ sep)).1 : Int), .int ((Tk.posn (t ++ sep)).2 : Int)]) n7
      have s67 := s6.trans s7
      have hP7 := hP5.same s67
      have s07 : PS2 p c H1 _ := ((s13.trans (.of s4)).trans s5).trans (.of s67)
      have hL7 := hL5.same s67
      have hu7 := s67 _ _ hu5
      let tk : Tk.T := ⟨srt, pc, (Tk.posn (t ++ sep)).1, (Tk.posn (t ++ sep)).2⟩
      refine ⟨f, us, .ref a7, rfl, rfl, hu7, Nat.lt_of_le_of_lt (show us.length ≤ 5000000 by omega) (by decide), ?_⟩
      have hL8 := LstD.more (d := tokD tk) hu7 hL7 (tok_dp (t := tk) upd_same) (by have := hfl (L ++ [tk]); rwa [List.map_append] at this)
      have e8 : (L ++ [tk]).map tokD = L.map tokD ++ [tokD tk] := by rw [List.map_append]; rfl
      rw [← e8] at hL8
      tm_at "rd"
      refine q_add_tx (show (t ++ sep).length + pc.length ≤ 1000000 by have : pc.length ≤ 21 := hpl2; omega) ?_
      tm_at "rd"
      refine ⟨t ++ sep ++ pc, L ++ [tk], _, _, _, rfl, ?_, ?_, .more hLd hsep hpc, hL8⟩
      · intro b o hb n1 n2
        rw [upd_ne (ne_of_none hb nf)]
        exact s07 _ _ (s1 _ _ hb n1 n2) n1 n2
      · obtain ⟨cells, cur, seed, h1, h2, h3⟩ := hP7
        exact ⟨cells, cur, seed, by rw [upd_ne npc.1.symm]; exact h1, by rw [upd_ne npc.2.symm]; exact h2, h3⟩
    · rintro σ H1 ⟨t, L, o1, o2, o3, rfl, s1, hP1, hLd, hL⟩
      tm_at "rd"
      intro q nq
      refine k _ q f m t L (hP1.same (same_new nq)) (s1.trans (.of (same_new nq))) (Nat.le_refl _) (by simpa using hLd) (SqT.of upd_same) (hL.same (same_new nq)) nf
end
end K15

set_option maxHeartbeats 4000000
/-! W15h: refusals told; one text asked. -/
namespace K15
open PySem PySem.Spec PyProof.Rows L2 TL Ak
local macro_rules | `(tactic| tm_at "rd1") => `(tactic| with_reducible first
  | refine r_seq ?_ | refine r_ifS ?_ | refine r_ret ?_ | refine r_asg ?_ | refine r_next ?_ | refine r_drop ?_ | refine r_par ?_ | refine r_brk ?_ | refine r_cont ?_
  | refine r_op ?_ | refine r_c ?_ | refine r_cb ?_ | refine r_cons ?_ | refine r_nil ?_ | refine r_un ?_ | refine r_tB ?_ | refine r_test ?_ | refine r_not ?_ | refine r_and ?_ | refine r_or ?_ | refine r_andV ?_ | refine r_orV ?_ | refine r_notV ?_ | refine r_if ?_ | refine r_chain ?_
  | refine r_tup ?_ | refine r_lst ?_ | refine r_sl ?_ | refine r_part ?_ | refine r_nopart ?_ | refine r_call ?_ | refine r_callK ?_ | refine r_bm ?_ | refine r_bm0 ?_ | refine r_m1 ?_ | refine r_m0 ?_ | refine r_isN ?_ | refine r_notN ?_
  | refine r_gcons ?_ | refine r_gnil ?_ | refine r_gsub ?_ | refine r_name ?_ | refine r_ilist ?_ | refine r_itup ?_ | refine r_istr ?_ | refine r_irng1 ?_ | refine r_ienum ?_ | refine r_mko ?_ | refine r_yes ?_ | refine r_lc ?_ | refine r_for ?_ | refine turn_i ?_
  | refine r_bl ?_ | refine r_int ?_ | refine r_two ?_ | refine r_str ?_ | refine r_two1 ?_
  | refine b_t ?_ | refine b_f ?_ | refine b_nt ?_ | refine b_nf ?_ | refine q_isi_str ?_ | refine q_u ?_ | refine q_i0 ?_ | refine q_ipI ?_ | refine q_add_int ?_ | refine q_eq_int ?_ | refine q_ne_int ?_ | refine q_eq_tx ?_ | refine q_ne_tx ?_ | refine q_in_sg ?_ | refine q_ni_sg ?_)
local macro_rules | `(tactic| tm_at "rd2") => `(tactic| first
  | tm_at "rd1" | refine r_var rfl ?_ | refine r_aug rfl ?_ 
  | refine And.intro (small_n (by simp)) ?_ | tm_at "rdl")
local macro_rules | `(tactic| tm_at "rdl") => `(tactic| first | (with_reducible refine q_len_tx (by assumption) ?_) | (with_reducible refine q_len_tx (by omega) ?_))
local macro_rules | `(tactic| tm_at "rd") => `(tactic| repeat tm_at "rd2")

section
variable {P : Program} {w : World} {K : PySem.W.Frag} {mg : Str → Option Value} {base : Heap}
theorem call_isErr' {X : Cx} {a D : Addr} {oe : Obj} {pn : List (Addr × Obj)} {cls : Value} {d : Option Addr} (C : ExcC X.K D) (hz : Zc cls d oe) (hf : ∃ vs, oe.data = .fields vs) :
    CallR (X.suite a ((a, oe) :: pn)) (.builtin "isinstance") (fun xs H Q => cls = .ref D ∧ ∃ (dd : Addr) (fs : List (Str × V)), d = some dd ∧ H dd = some (.xd fs) ∧ rIsE X.K D a xs H Q) := by
  intro pins s σ H xs us Q I r h
  obtain ⟨rfl, dd, fs, rfl, h1, h2⟩ := h
  exact call_isErr C hz hf pins s σ H xs us Q I r ⟨h1, h2⟩
/-! ### _law_refused -/
def sp_refused : Sp := fun vs H Q _ => ∃ (x : List Nat) (ts : List Tk.T) (t : Tk.T), vs = [.str (tx x)] ∧ x.length ≤ 2000 ∧ (∀ c ∈ x, c < 128) ∧ Tk.toksOf x = ts ++ [t] ∧ t.sort = Tk.sNone ∧
  ∀ H' p, Same H H' → H p = none → H' p = some (.lst [.int (t.row : Int), .int (t.col : Int), .bl true]) → Q (.ref p) H'
theorem ok_refused (T : Tx K mg) (B : Bx K mg) : FnOk P w K mg base CX0 8 T.f__law_refused T.fd__law_refused ["text"] sp_refused := by
  have G_tokens := ok_tokens (P := P) (w := w) (base := base) T B
  have b_tokens := T.d_tokens.F.binds (ps := ["text"]) fun _ _ _ _ _ _ us hl => match us, hl with | [_], _ => rfl
  refine T.d__law_refused.F.ok sc__law_refused (fun vs H Q E h => ?_) (fun cdv A outer s H vs Q E hr h => ?_)
  · obtain ⟨x, ts, t, rfl, _⟩ := h
    rfl
  · obtain ⟨x, ts, t, rfl, hz, ha, hT, hn, k⟩ := h
    have hu := hu_of hr
    have hu64 := hr.units
    refine ⟨_, (pss_cons (ps_set (i := 1) sc__law_refused.nd rfl (Or.inl rfl) pe_non)
      (pss_cons (ps_try_as (i := 2) (tb := fun W => tDrop (tCallS (sp_tokens B) (WE W) (tCons (tVar 0) tNil)))
          (ts := fun a cls d => tAsg (tLst (tCons (tXf a cls d B.C "line" (tVar 2)) (tCons (tXf a cls d B.C "column" (tVar 2)) (tCons (tCB (fun xs H Q => cls = .ref B.C ∧ ∃ (dd : Addr) (fs : List (Str × V)), d = some dd ∧ H dd = some (.xd fs) ∧ rIsE K B.C a xs H Q) (tCons (tVar 2) (tCons (tC (.ref B.D)) tNil))) tNil)))) (gName 1))
          (Wout := fun _ _ _ _ => False) rfl rfl sc__law_refused.nd rfl rfl ⟨rfl, by decide, Or.inl B.gC⟩ takes0
          (fun W pn xe tk _ => pss_one (ps_expr (by exact (pe_callS G_tokens hr rfl T.d_tokens.g T.d_tokens.F.kp b_tokens (fun σ => passAt tk σ) (by exact (pa_cons (pv 0) pa_nil))))))
          (fun a oe cls d pn hz hf => pss_one (ps_set (i := 1) sc__law_refused.nd rfl (Or.inl rfl) (by exact (pe_lst (pa_cons (pe_xf B.xf B.nl hz hf (pv 2)) (pa_cons (pe_xf B.xf B.nc hz hf (pv 2)) (pa_cons (pe_callB (call_isErr' B.exc hz hf) (by rfl) T.n_isinstance (by decide +kernel) (pa_cons (pv 2) (pa_cons (pe_glob (by rfl) B.gD rfl) pa_nil))) pa_nil)))))))) 
      (pss_one (ps_ret (pv 1))))), ?_⟩
    tm_at "rd"
    refine ⟨x, rfl, hz, ha, fun ts' t' e' h1 _ _ _ _ _ _ _ => ?_, fun ts' t' e' h1 hok H1 d s1 nd hd => ?_⟩
    · have e2 : ts' ++ [t'] = ts ++ [t] := by rw [← e', hT]
      have e3 := (List.append_inj' e2 rfl).2
      simp only [List.cons.injEq, and_true] at e3
      subst e3
      exact absurd hn h1
    · have e2 : ts' ++ [t'] = ts ++ [t] := by rw [← e', hT]
      have e3 := (List.append_inj' e2 rfl).2
      simp only [List.cons.injEq, and_true] at e3
      subst e3
      refine ⟨true, B.exm, fun _ a na => ?_, fun z => by cases z⟩
      tm_at "rd"
      refine ⟨rfl, rfl, d, _, _, rfl, hd, rfl, ?_⟩
      tm_at "rd"
      refine ⟨rfl, rfl, d, _, _, rfl, hd, rfl, ?_⟩
      tm_at "rd"
      refine ⟨rfl, d, _, rfl, hd, _, .ref B.D, true, rfl, fun u hu => hu, B.sub, ?_⟩
      tm_at "rd"
      intro p hp
      tm_at "rd"
      exact k _ p (s1.trans (same_new hp)) (s1.free hp) upd_same
end
end K15

set_option maxHeartbeats 4000000
/-! W15i: one text asked. -/
namespace K15
open PySem PySem.Spec PyProof.Rows L2 TL Ak
local macro_rules | `(tactic| tm_at "rd1") => `(tactic| with_reducible first
  | refine r_seq ?_ | refine r_ifS ?_ | refine r_ret ?_ | refine r_asg ?_ | refine r_next ?_ | refine r_drop ?_ | refine r_par ?_ | refine r_brk ?_ | refine r_cont ?_
  | refine r_op ?_ | refine r_c ?_ | refine r_cb ?_ | refine r_cons ?_ | refine r_nil ?_ | refine r_un ?_ | refine r_tB ?_ | refine r_test ?_ | refine r_not ?_ | refine r_and ?_ | refine r_or ?_ | refine r_andV ?_ | refine r_orV ?_ | refine r_notV ?_ | refine r_if ?_ | refine r_chain ?_
  | refine r_tup ?_ | refine r_lst ?_ | refine r_sl ?_ | refine r_part ?_ | refine r_nopart ?_ | refine r_call ?_ | refine r_callK ?_ | refine r_bm ?_ | refine r_bm0 ?_ | refine r_m1 ?_ | refine r_m0 ?_ | refine r_isN ?_ | refine r_notN ?_
  | refine r_gcons ?_ | refine r_gnil ?_ | refine r_gsub ?_ | refine r_name ?_ | refine r_ilist ?_ | refine r_itup ?_ | refine r_istr ?_ | refine r_irng1 ?_ | refine r_ienum ?_ | refine r_mko ?_ | refine r_yes ?_ | refine r_lc ?_ | refine r_for ?_ | refine turn_i ?_
  | refine r_bl ?_ | refine r_int ?_ | refine r_two ?_ | refine r_str ?_ | refine r_two1 ?_
  | refine b_t ?_ | refine b_f ?_ | refine b_nt ?_ | refine b_nf ?_ | refine q_isi_str ?_ | refine q_u ?_ | refine q_i0 ?_ | refine q_ipI ?_ | refine q_add_int ?_ | refine q_eq_int ?_ | refine q_ne_int ?_ | refine q_eq_tx ?_ | refine q_ne_tx ?_ | refine q_in_sg ?_ | refine q_ni_sg ?_)
local macro_rules | `(tactic| tm_at "rd2") => `(tactic| first
  | tm_at "rd1" | refine r_var rfl ?_ | refine r_aug rfl ?_ 
  | refine And.intro (small_n (by simp)) ?_ | tm_at "rdl")
local macro_rules | `(tactic| tm_at "rdl") => `(tactic| first | (with_reducible refine q_len_tx (by assumption) ?_) | (with_reducible refine q_len_tx (by omega) ?_))
local macro_rules | `(tactic| tm_at "rd") => `(tactic| repeat tm_at "rd2")

section
variable {P : Program} {w : World} {K : PySem.W.Frag} {mg : Str → Option Value} {base : Heap}
/-- a def with one parameter, given by its name -/
theorem kb_one {x qual n : Str} {st : Stmt} {f : Addr} {fd : FuncData} (F : Fun K x qual st f fd)
    (h0 : ∀ (kV doc pm : Value) (an : Option Addr) (cdv ct : Value) (u : Value), bindArgs (PySem.W.fnOf x qual (defArgs st) (defBody st) (defScope st) .none kV doc pm an cdv ct) ⟨[u], []⟩ = pure [(n, u)])
    (h1 : ∀ (kV doc pm : Value) (an : Option Addr) (cdv ct : Value) (u : Value), bindArgs (PySem.W.fnOf x qual (defArgs st) (defBody st) (defScope st) .none kV doc pm an cdv ct) ⟨[], [(n, u)]⟩ = pure [(n, u)]) :
    KBinds K fd [n] [n] (fun us ws => us ++ ws) (fun vs zs => vs ++ zs) := by
  obtain ⟨oc, od, kV, doc, pm, an, cdv, ct, osl, rfl, lk, hcd⟩ := F.ex
  exact kbinds1 (h0 kV doc pm an cdv ct) (h1 kV doc pm an cdv ct)
theorem q_eq_str {H : Hp} {Q : VK} {a : Str} (q : Q (.bl true) H) : rEqA K (.str a) (.str a) H Q := by
  have := q_eq_tx (K := K) (H := H) (Q := Q) (a := tl a) (b := tl a) (by rw [decide_eq_true rfl]; exact q)
  rwa [tx_tl] at this
theorem q_ne_str {H : Hp} {Q : VK} {a : Str} (q : Q (.bl false) H) : rNeA K (.str a) (.str a) H Q := by
  have := q_ne_tx (K := K) (H := H) (Q := Q) (a := tl a) (b := tl a) (by rw [decide_eq_true rfl]; exact q)
  rwa [tx_tl] at this
theorem last_inj {α : Type} {ts ts' : List α} {t t' : α} (h : ts' ++ [t'] = ts ++ [t]) : ts' = ts ∧ t' = t := by
  obtain ⟨a, b⟩ := List.append_inj' h rfl
  simp only [List.cons.injEq, and_true] at b
  exact ⟨a, b⟩
theorem LstD.front {H : Hp} {a : Addr} {ts : List Tk.T} {t : Tk.T} {us : List V} (h : LstD K H a ((ts ++ [t]).map tokD)) (hu : H a = some (.lst us)) : DpAll K H us.dropLast (ts.map tokD) := by
  obtain ⟨ws, hw, hD⟩ := h
  rw [hu] at hw
  cases hw
  rw [List.map_append] at hD
  have hl := DpAll.length hD
  simp only [List.length_append, List.length_map, List.length_singleton, List.map_cons, List.map_nil] at hl
  have := DpAll.take ts.length hD
  rw [List.take_left' (by simp)] at this
  rw [List.dropLast_eq_take, hl, Nat.add_sub_cancel]
  exact this
/-! ### _law_string_right -/
def sp_sright : Sp := fun vs H Q _ => ∃ x : List Nat, vs = [.str (tx x)] ∧ x.length ≤ 500 ∧ (∀ c ∈ x, c < 128) ∧ ∀ H', Same H H' → Q (.bl true) H'
theorem ok_sright (T : Tx K mg) (B : Bx K mg) : Quiet P w K mg base CX0 9 T.f__law_string_right T.fd__law_string_right ["text"] sp_sright := by
  have G_tokens := ok_tokens (P := P) (w := w) (base := base) T B
  have G__law_tokens := ok_ltokens (P := P) (w := w) (base := base) T
  have G__law_refused := ok_refused (P := P) (w := w) (base := base) T B
  have b_tokens := T.d_tokens.F.binds (ps := ["text"]) fun _ _ _ _ _ _ us hl => match us, hl with | [_], _ => rfl
  have b__law_tokens := T.d__law_tokens.F.binds (ps := ["text"]) fun _ _ _ _ _ _ us hl => match us, hl with | [_], _ => rfl
  have b__law_refused := T.d__law_refused.F.binds (ps := ["text"]) fun _ _ _ _ _ _ us hl => match us, hl with | [_], _ => rfl
  have kb_tokens := kb_one (n := "text") T.d_tokens.F (fun _ _ _ _ _ _ _ => rfl) (fun _ _ _ _ _ _ _ => rfl)
  refine quiet_of T.d__law_string_right.F sc__law_string_right (fun vs H Q E h => ?_) (fun cdv A outer s H vs Q E hgd hr h => ?_)
  · obtain ⟨x, rfl, _⟩ := h
    rfl
  · obtain ⟨x, rfl, hz, ha, k⟩ := h
    have hu := hu_of hr
    have hu64 := hr.units
    refine ⟨_, (pss_cons (ps_set (i := 1) sc__law_string_right.nd rfl (Or.inl rfl) (pe_call G__law_tokens (hr.mono (by decide)) rfl T.d__law_tokens.g T.d__law_tokens.F.kp b__law_tokens .nil pass0 (pa_cons (pv 0) pa_nil)))
      (pss_cons (ps_if (pt_cmpR (opEq (K := K) rfl hu64) (pe_ix (ixAny (K := K) rfl) (pe_ix (ixAny (K := K) rfl) (pv 1) (pe_un un_neg pe_int) (fun _ _ => rfl)) pe_int (fun _ _ => rfl)) (pe_lit "none") (nomark _)) (pss_one (ps_ret (pe_cmpR (opEq (K := K) rfl hu64) (pe_callB (caRepr (K := K) rfl hgd hu64) (by rfl) T.n_repr (by decide +kernel) (pa_cons (pe_call G__law_refused (hr.mono (by decide)) rfl T.d__law_refused.g T.d__law_refused.F.kp b__law_refused .nil pass0 (pa_cons (pv 0) pa_nil)) pa_nil)) (pe_callB (caRepr (K := K) rfl hgd hu64) (by rfl) T.n_repr (by decide +kernel) (pa_cons (pe_lst (pa_cons (pe_ix (ixAny (K := K) rfl) (pe_ix (ixAny (K := K) rfl) (pv 1) (pe_un un_neg pe_int) (fun _ _ => rfl)) pe_int (fun _ _ => rfl)) (pa_cons (pe_ix (ixAny (K := K) rfl) (pe_ix (ixAny (K := K) rfl) (pv 1) (pe_un un_neg pe_int) (fun _ _ => rfl)) pe_int (fun _ _ => rfl)) (pa_cons pe_bl pa_nil)))) pa_nil)) (nomark _)))) pss_nil)
      (pss_one (ps_ret (pe_cmpR (opEq (K := K) rfl hu64) (pe_callB (caRepr (K := K) rfl hgd hu64) (by rfl) T.n_repr (by decide +kernel) (pa_cons (pe_lst (pa_cons (pe_call G_tokens (hr.mono (by decide)) rfl T.d_tokens.g T.d_tokens.F.kp b_tokens .nil passL (pa_cons (pv 0) pa_nil)) (pa_cons (pe_callN G_tokens (hr.mono (by decide)) rfl T.d_tokens.g T.d_tokens.F.kp kb_tokens passL (pk_cons (pv 0) pk_nil)) pa_nil))) pa_nil)) (pe_callB (caRepr (K := K) rfl hgd hu64) (by rfl) T.n_repr (by decide +kernel) (pa_cons (pe_op opMul (pe_lst (pa_cons (pe_slice (slAny (K := K) rfl) (pv 1) po_none (po_some (pe_un un_neg pe_int))) pa_nil)) pe_int) pa_nil)) (nomark _)))))), ?_⟩
    tm_at "rd"
    refine ⟨x, rfl, by omega, ha, fun H1 p s1 np _ _ hL => ?_⟩
    have small := toks_ok (m := 500) x ha hz
    obtain ⟨ts, t, e⟩ := toks_last x
    rw [e] at hL small
    rw [List.length_append, List.length_singleton] at small
    have hokt := small.1 t (by simp)
    have hoks : ∀ t ∈ ts, okT 500 t := fun t ht => small.1 t (List.mem_append_left _ ht)
    obtain ⟨us, q, hu1, hu2⟩ := last_tok hL
    tm_at "rd"
    refine q_ix_lst (SqL.of hu1) (atI_last _ _) ?_
    tm_at "rd"
    refine q_ix_tup hu2 rfl ?_
    tm_at "rd"
    refine bd (fun h1 => ?_) (fun h1 => ?_)
    · tm_at "rd"
      refine ⟨x, ts, t, rfl, by omega, ha, e, h1, fun H2 p2 s2 n2 h2 => ?_⟩
      tm_at "rd"
      refine (place_shows hokt.2.2.2.2.1 hokt.2.2.2.2.2).repr (by decide) (.lst (SqL.of h2) (.cons (.int _) (.cons (.int _) (.cons (.bl _) .nil)))) ?_
      have hu3 := s2 _ _ hu1
      have hu4 := Same.tup s2 hu2
      tm_at "rd"
      refine q_ix_lst (SqL.of hu3) (atI_last _ _) ?_
      tm_at "rd"
      refine q_ix_tup hu4 rfl ?_
      tm_at "rd"
      refine q_ix_lst (SqL.of hu3) (atI_last _ _) ?_
      tm_at "rd"
      refine q_ix_tup hu4 rfl ?_
      tm_at "rd"
      intro p3 n3
      tm_at "rd"
      refine (place_shows hokt.2.2.2.2.1 hokt.2.2.2.2.2).repr (by decide) (.lst (SqL.of upd_same) (.cons (.int _) (.cons (.int _) (.cons (.bl _) .nil)))) ?_
      exact q_eq_str (k _ ((s1.trans s2).trans (same_new n3)))
    · tm_at "rd"
      refine ⟨x, rfl, by omega, ha, fun ts' t' e' h1' _ _ H2 p2 s2 n2 hL2 => ?_, fun ts' t' e' h1' => absurd ((last_inj (e'.symm.trans e)).2 ▸ h1') h1⟩
      obtain ⟨rfl, rfl⟩ := last_inj (e'.symm.trans e)
      tm_at "rd"
      refine ⟨x, rfl, by omega, ha, fun ts2 t2 e2 h2' _ _ H3 p3 s3 n3 hL3 => ?_, fun ts2 t2 e2 h2' => absurd ((last_inj (e2.symm.trans e)).2 ▸ h2') h1⟩
      obtain ⟨rfl, rfl⟩ := last_inj (e2.symm.trans e)
      tm_at "rd"
      intro p4 n4
      tm_at "rd"
      obtain ⟨sh, sd⟩ := toks_shows (Nat.le_refl 500) _ hoks
      have hl4 : 2 * (530 * ts2.length) + 2 ≤ 1000000 := by omega
      have s4 := same_new (o := .lst [.ref p2, .ref p3]) n4
      refine (two_shows sh sh sd sd).repr hl4 (.lst (SqL.of upd_same) (.cons (LstD.dp (LstD.same s4 (LstD.same s3 hL2))) (.cons (LstD.dp (LstD.same s4 hL3)) .nil))) ?_
      tm_at "rd"
      have s24 := (s2.trans s3).trans s4
      refine q_cutlast (SqL.of (s24 _ _ hu1)) (fun b hb => ?_)
      have hfr := LstD.front (LstD.same s24 hL) (s24 _ _ hu1)
      tm_at "rd"
      intro p6 n6
      tm_at "rd"
      have s5 := same_new (o := .lst (us ++ [V.ref q]).dropLast) hb
      have s6 := same_new (o := .lst [.ref b]) n6
      refine .inr ⟨p6, 2, _, rfl, rfl, upd_same, by decide, by decide, show 1 * Int.toNat 2 ≤ sizeLine by decide, fun p7 n7 => ?_⟩
      have s7 := same_new (o := .lst (List.replicate (2 : Int).toNat [V.ref b]).flatten) n7
      have hL7 : LstD K _ b (ts2.map tokD) := LstD.same (s6.trans s7) ⟨(us ++ [V.ref q]).dropLast, upd_same, DpAll.same s5 hfr⟩
      tm_at "rd"
      refine (two_shows sh sh sd sd).repr hl4 (.lst (xs := [.ref b, .ref b]) (SqL.of upd_same) (.cons (LstD.dp hL7) (.cons (LstD.dp hL7) .nil))) ?_
      exact q_eq_str (k _ ((s1.trans (s24.trans s5)).trans (s6.trans s7)))
end
end K15

set_option maxHeartbeats 4000000
/-! W15j: the law. -/
namespace K15
open PySem PySem.Spec PyProof.Rows L2 TL Ak
local macro_rules | `(tactic| tm_at "rd1") => `(tactic| with_reducible first
  | refine r_seq ?_ | refine r_ifS ?_ | refine r_ret ?_ | refine r_asg ?_ | refine r_next ?_ | refine r_drop ?_ | refine r_par ?_ | refine r_brk ?_ | refine r_cont ?_
  | refine r_op ?_ | refine r_c ?_ | refine r_cb ?_ | refine r_cons ?_ | refine r_nil ?_ | refine r_un ?_ | refine r_tB ?_ | refine r_test ?_ | refine r_not ?_ | refine r_and ?_ | refine r_or ?_ | refine r_andV ?_ | refine r_orV ?_ | refine r_notV ?_ | refine r_if ?_ | refine r_chain ?_
  | refine r_tup ?_ | refine r_lst ?_ | refine r_sl ?_ | refine r_part ?_ | refine r_nopart ?_ | refine r_call ?_ | refine r_callK ?_ | refine r_bm ?_ | refine r_bm0 ?_ | refine r_m1 ?_ | refine r_m0 ?_ | refine r_isN ?_ | refine r_notN ?_
  | refine r_gcons ?_ | refine r_gnil ?_ | refine r_gsub ?_ | refine r_name ?_ | refine r_ilist ?_ | refine r_itup ?_ | refine r_istr ?_ | refine r_irng1 ?_ | refine r_ienum ?_ | refine r_mko ?_ | refine r_yes ?_ | refine r_lc ?_ | refine r_for ?_ | refine turn_i ?_
  | refine r_bl ?_ | refine r_int ?_ | refine r_two ?_ | refine r_str ?_ | refine r_two1 ?_
  | refine b_t ?_ | refine b_f ?_ | refine b_nt ?_ | refine b_nf ?_ | refine q_isi_str ?_ | refine q_u ?_ | refine q_i0 ?_ | refine q_ipI ?_ | refine q_add_int ?_ | refine q_eq_int ?_ | refine q_ne_int ?_ | refine q_eq_tx ?_ | refine q_ne_tx ?_ | refine q_in_sg ?_ | refine q_ni_sg ?_)
local macro_rules | `(tactic| tm_at "rd2") => `(tactic| first
  | tm_at "rd1" | refine r_var rfl ?_ | refine r_aug rfl ?_ 
  | refine And.intro (small_n (by simp)) ?_ | tm_at "rdl")
local macro_rules | `(tactic| tm_at "rdl") => `(tactic| first | (with_reducible refine q_len_tx (by assumption) ?_) | (with_reducible refine q_len_tx (by omega) ?_))
local macro_rules | `(tactic| tm_at "rd") => `(tactic| repeat tm_at "rd2")

section
variable {P : Program} {w : World} {K : PySem.W.Frag} {mg : Str → Option Value} {base : Heap}
theorem PS2.new {p c D : Addr} {H H' : Hp} {o : HO} (s : PS2 p c H H') (hD : H D = none) (hP : Pot H p c) : PS2 p c H (upd H' D o) := fun b u e n1 n2 => by
  rw [upd_ne (ne_of_none e hD)]
  exact s b u e n1 n2
theorem Pot.new {p c D : Addr} {H : Hp} {o : HO} (h : Pot H p c) (n1 : D ≠ p) (n2 : D ≠ c) : Pot (upd H D o) p c := by
  obtain ⟨cells, cur, seed, h1, h2, h3⟩ := h
  exact ⟨cells, cur, seed, by rw [upd_ne n1.symm]; exact h1, by rw [upd_ne n2.symm]; exact h2, h3⟩
section
variable {g : TG} {tt : TT} {te : TE} {σ : L2.St} {H1 : Hp} {i : Nat}
/-- a comprehension over a range whose items are drawn from the pot -/
theorem lc_pot {n : Nat} {D p c : Addr} {Qd : Hp → Prop} (A : V → Prop) (hn : n ≤ 1000) (hP : Pot H1 p c)
    (ht : ∀ (x : V) (H : Hp) (Q : Bool → Hp → Prop), Q true H → tt ((wipe σ [i]).set i (some x)) H Q)
    (he : ∀ (x : V) (H : Hp) (Q : VK), PS2 p c H1 H → Pot H p c → (∀ H' v, PS2 p c H H' → Pot H' p c → A v → Q v H') → te ((wipe σ [i]).set i (some x)) H Q)
    (hD : H1 D = none) (hd : ∀ H' vs, PS2 p c H1 H' → Pot H' p c → H' D = some (.lst vs) → vs.length ≤ n → (∀ v ∈ vs, A v) → Qd H') :
    ∃ W : Nat → Nat → Hp → Prop, (∃ m, W 0 m (upd H1 D (.lst []))) ∧ ∀ j m H, W j m H →
      ((Itr 0 n).stop j H ∧ Qd H) ∨ ((Itr 0 n).go j H ∧ ∃ Nx : Hp → Prop, (∀ H', Nx H' → ∃ m', m' < m ∧ W (j + 1) m' H') ∧ ∀ x H', (Itr 0 n).yld j H x H' → gName i x (wipe σ [i]) H' fun σ2 H2 => wipe σ2 [i] = wipe σ [i] ∧ tt σ2 H2 fun b H3 =>
        if b = true then te σ2 H3 fun y H4 => ∃ acc, H4 D = some (.lst acc) ∧ acc.length < sizeLine ∧ Nx (upd H4 D (.lst (acc ++ [y]))) else Nx H3) := by
  have hne := hP.ne hD
  refine lc_it (g := gName i) (walk_range (lo := 0) (n := n)) (fun j H => PS2 p c H1 H ∧ Pot H p c ∧ ∃ vs, H D = some (.lst vs) ∧ vs.length = j ∧ ∀ v ∈ vs, A v)
    ⟨(PS2.refl _).new hD hP, hP.new hne.1 hne.2, [], upd_same, rfl, by simp⟩ (fun _ _ _ _ => trivial) ?_ ?_
  · rintro j x H H' hj ⟨s1, hP1, vs, hvs, hl, hA⟩ ⟨rfl, rfl⟩
    refine ⟨wipe_one σ i _, ht _ _ _ ?_⟩
    rw [if_pos rfl]
    refine he _ _ _ s1 hP1 (fun H2 v s2 hP2 hv => ?_)
    refine ⟨vs, s2 _ _ hvs hne.1 hne.2, Nat.lt_of_le_of_lt (show vs.length ≤ 1000 by omega) (by decide), (s1.trans s2).new hD hP, hP2.new hne.1 hne.2, _, upd_same, by simp [hl], fun y hy => ?_⟩
    rcases List.mem_append.mp hy with h | h
    · exact hA y h
    · rw [List.mem_singleton.mp h]
      exact hv
  · rintro H ⟨s1, hP1, vs, hvs, hl, hA⟩
    exact hd H vs s1 hP1 hvs (Nat.le_of_eq hl) hA
/-- a comprehension over a list of which no item passes -/
theorem lc_none {K : PySem.W.Frag} {J : It} {G : Hp → Prop} {xs : List V} {D : Addr} {Qd : Hp → Prop} (w : Walk J xs.length G (YAt xs)) (hG : ∀ H, Same H1 H → G H)
    (ht : ∀ x ∈ xs, ∀ (H : Hp) (Q : Bool → Hp → Prop), Same H1 H → (∀ H', Same H H' → Q false H') → tt ((wipe σ [i]).set i (some x)) H Q)
    (hD : H1 D = none) (hd : ∀ H', Same H1 H' → H' D = some (.lst []) → Qd H') :
    ∃ W : Nat → Nat → Hp → Prop, (∃ m, W 0 m (upd H1 D (.lst []))) ∧ ∀ j m H, W j m H →
      (J.stop j H ∧ Qd H) ∨ (J.go j H ∧ ∃ Nx : Hp → Prop, (∀ H', Nx H' → ∃ m', m' < m ∧ W (j + 1) m' H') ∧ ∀ x H', J.yld j H x H' → gName i x (wipe σ [i]) H' fun σ2 H2 => wipe σ2 [i] = wipe σ [i] ∧ tt σ2 H2 fun b H3 =>
        if b = true then te σ2 H3 fun y H4 => ∃ acc, H4 D = some (.lst acc) ∧ acc.length < sizeLine ∧ Nx (upd H4 D (.lst (acc ++ [y]))) else Nx H3) := by
  refine lc_it (g := gName i) w (fun j H => Same H1 H ∧ H D = some (.lst [])) ⟨same_new hD, upd_same⟩ (fun j H _ e => hG _ e.1) ?_ ?_
  · rintro j x H H' hj ⟨s1, hL⟩ ⟨rfl, hc'⟩
    refine ⟨wipe_one σ i _, ht x (List.mem_of_getElem? hc') _ _ s1 (fun H2 s2 => ?_)⟩
    rw [if_neg Bool.false_ne_true]
    exact ⟨s1.trans s2, s2 _ _ hL⟩
  · rintro H ⟨s1, hL⟩
    exact hd H s1 hL
end
theorem laid_ascii {n : Nat} {t : List Nat} {L : List Tk.T} (h : Tk.Laid n t L) : ∀ c ∈ t, c < 128 := by
  have l1 : ∀ x ∈ Tk.seps, ∀ c ∈ x, c < 128 := by decide
  have l2 : ∀ x ∈ Tk.pieces, ∀ c ∈ x.2, c < 128 := by decide +kernel
  induction h with
  | nil => intro c hc; simp at hc
  | @more n t sep s p L hl hs hp ih =>
    intro c hc
    rcases List.mem_append.mp hc with hc | hc
    · rcases List.mem_append.mp hc with hc | hc
      · exact ih c hc
      · exact l1 _ hs c hc
    · exact l2 _ hp c hc
def someT : List (List Nat) := [cs "a", cs "b", cs "L", cs "1", cs "_", [32], cs "-", cs ">", cs ":", cs "(", [10], cs "#", cs "in", cs "-->", cs ":::", cs "$", cs "="]
def fixedT : List (List Nat) := [cs "", [10], cs "->-", cs "::->", cs "a->b", cs "a::b", cs "x:::y", cs "- >", cs "<=", cs "a#b\nc", cs "1a"]
def sp_right : Sp := fun vs H Q _ => ∃ p c : Addr, vs = [.ref p] ∧ Pot H p c ∧ ∀ H', Q (.bl true) H'
theorem ok_right (T : Tx K mg) (B : Bx K mg) : Quiet P w K mg base CX0 10 T.f__law_right T.fd__law_right ["pot"] sp_right := by
  have G_tokens := ok_tokens (P := P) (w := w) (base := base) T B
  have G__law_laid := ok_laid (P := P) (w := w) (base := base) T
  have G__law_draw := ok_draw (P := P) (w := w) (base := base) T
  have G__law_pick := ok_pick (P := P) (w := w) (base := base) T
  have G__law_nones := ok_nones (P := P) (w := w) (base := base) T
  have G__law_refused := ok_refused (P := P) (w := w) (base := base) T B
  have G__law_string_right := ok_sright (P := P) (w := w) (base := base) T B
  have b_tokens := T.d_tokens.F.binds (ps := ["text"]) fun _ _ _ _ _ _ us hl => match us, hl with | [_], _ => rfl
  have b__law_laid := T.d__law_laid.F.binds (ps := ["pot", "many"]) fun _ _ _ _ _ _ us hl => match us, hl with | [_, _], _ => rfl
  have b__law_draw := T.d__law_draw.F.binds (ps := ["pot", "many"]) fun _ _ _ _ _ _ us hl => match us, hl with | [_, _], _ => rfl
  have b__law_pick := T.d__law_pick.F.binds (ps := ["pot", "some"]) fun _ _ _ _ _ _ us hl => match us, hl with | [_, _], _ => rfl
  have b__law_nones := T.d__law_nones.F.binds (ps := []) fun _ _ _ _ _ _ us hl => match us, hl with | [], _ => rfl
  have b__law_refused := T.d__law_refused.F.binds (ps := ["text"]) fun _ _ _ _ _ _ us hl => match us, hl with | [_], _ => rfl
  have b__law_string_right := T.d__law_string_right.F.binds (ps := ["text"]) fun _ _ _ _ _ _ us hl => match us, hl with | [_], _ => rfl
  refine quiet_of T.d__law_right.F sc__law_right (fun vs H Q E h => ?_) (fun cdv A outer s H vs Q E hgd hr h => ?_)
  · obtain ⟨p, c, rfl, _⟩ := h
    rfl
  · obtain ⟨p, c, rfl, hP, k⟩ := h
    have hu := hu_of hr
    have hu64 := hr.units
    refine ⟨_, (pss_cons (ps_asg (pe_call G__law_laid (hr.mono (by decide)) rfl T.d__law_laid.g T.d__law_laid.F.kp b__law_laid .nil pass0 (pa_cons (pv 0) (pa_cons (pe_call G__law_draw (hr.mono (by decide)) rfl T.d__law_draw.g T.d__law_draw.F.kp b__law_draw .nil pass0 (pa_cons (pv 0) (pa_cons pe_int pa_nil))) pa_nil))) (pg_tup rfl (pgs_cons (pg_name (i := 1) sc__law_right.nd rfl (Or.inl rfl)) (pgs_cons (pg_name (i := 2) sc__law_right.nd rfl (Or.inl rfl)) pgs_nil))))
      (pss_cons (ps_if (pt_cmpR (opNe (K := K) rfl hu64) (pe_callB (caRepr (K := K) rfl hgd hu64) (by rfl) T.n_repr (by decide +kernel) (pa_cons (pe_lst (pa_cons (pe_call G_tokens (hr.mono (by decide)) rfl T.d_tokens.g T.d_tokens.F.kp b_tokens .nil passL (pa_cons (pv 1) pa_nil)) (pa_cons (pe_call G_tokens (hr.mono (by decide)) rfl T.d_tokens.g T.d_tokens.F.kp b_tokens .nil passL (pa_cons (pe_op (opAdd (K := K) rfl) (pv 1) (pe_call G__law_pick (hr.mono (by decide)) rfl T.d__law_pick.g T.d__law_pick.F.kp b__law_pick .nil pass0 (pa_cons (pv 0) (pa_cons (pe_lst (pa_cons (pe_lit "") (pa_cons (pe_lit " ") (pa_cons (pe_lit "\n") (pa_cons (pe_lit "# 9a") (pa_cons (pe_lit "\n\n#") pa_nil)))))) pa_nil)))) pa_nil)) pa_nil))) pa_nil)) (pe_callB (caRepr (K := K) rfl hgd hu64) (by rfl) T.n_repr (by decide +kernel) (pa_cons (pe_lst (pa_cons (pv 2) (pa_cons (pv 2) pa_nil))) pa_nil)) (nomark _)) (pss_one (ps_ret pe_bl)) pss_nil)
      (pss_cons (ps_set (i := 3) sc__law_right.nd rfl (Or.inl rfl) (pe_op (opAdd (K := K) rfl) (pv 1) (pe_lit " ")))
      (pss_cons (ps_if (pt_cmpR (opNe (K := K) rfl hu64) (pe_callB (caRepr (K := K) rfl hgd hu64) (by rfl) T.n_repr (by decide +kernel) (pa_cons (pe_call G__law_refused (hr.mono (by decide)) rfl T.d__law_refused.g T.d__law_refused.F.kp b__law_refused .nil pass0 (pa_cons (pe_op (opAdd (K := K) rfl) (pe_op (opAdd (K := K) rfl) (pv 3) (pe_call G__law_pick (hr.mono (by decide)) rfl T.d__law_pick.g T.d__law_pick.F.kp b__law_pick .nil pass0 (pa_cons (pv 0) (pa_cons (pe_call0 G__law_nones (hr.mono (by decide)) rfl T.d__law_nones.g T.d__law_nones.F.kp b__law_nones .nil pass0) pa_nil)))) (pe_call G__law_pick (hr.mono (by decide)) rfl T.d__law_pick.g T.d__law_pick.F.kp b__law_pick .nil pass0 (pa_cons (pv 0) (pa_cons (pe_lst (pa_cons (pe_lit "") (pa_cons (pe_lit " (") (pa_cons (pe_lit "\n9a") pa_nil)))) pa_nil)))) pa_nil)) pa_nil)) (pe_callB (caRepr (K := K) rfl hgd hu64) (by rfl) T.n_repr (by decide +kernel) (pa_cons (pe_lst (pa_cons (pe_m1 PySem.F.slot_str_count PySem.F.type_str_count mt_count (pv 3) (pe_lit "\n")) (pa_cons (pe_callB (caLen (K := K) rfl) (by rfl) T.n_len (by decide +kernel) (pa_cons (pe_ix (ixAny (K := K) rfl) (pe_split (pv 3) (pe_lit "\n")) (pe_un un_neg pe_int) (fun _ _ => rfl)) pa_nil)) (pa_cons pe_bl pa_nil)))) pa_nil)) (nomark _)) (pss_one (ps_ret pe_bl)) pss_nil)
      (pss_cons (ps_set (i := 4) sc__law_right.nd rfl (Or.inr rfl) (pe_lst (pa_cons (pe_lit "a") (pa_cons (pe_lit "b") (pa_cons (pe_lit "L") (pa_cons (pe_lit "1") (pa_cons (pe_lit "_") (pa_cons (pe_lit " ") (pa_cons (pe_lit "-") (pa_cons (pe_lit ">") (pa_cons (pe_lit ":") (pa_cons (pe_lit "(") (pa_cons (pe_lit "\n") (pa_cons (pe_lit "#") (pa_cons (pe_lit "in") (pa_cons (pe_lit "-->") (pa_cons (pe_lit ":::") (pa_cons (pe_lit "$") (pa_cons (pe_lit "=") pa_nil)))))))))))))))))))
      (pss_cons (ps_set (i := 5) sc__law_right.nd rfl (Or.inl rfl) (pe_op (opAdd (K := K) rfl) (pe_lst (pa_cons (pe_lit "") (pa_cons (pe_lit "\n") (pa_cons (pe_lit "->-") (pa_cons (pe_lit "::->") (pa_cons (pe_lit "a->b") (pa_cons (pe_lit "a::b") (pa_cons (pe_lit "x:::y") (pa_cons (pe_lit "- >") (pa_cons (pe_lit "<=") (pa_cons (pe_lit "a#b\nc") (pa_cons (pe_lit "1a") pa_nil)))))))))))) (pe_lc (own := [("many", 6)]) (g := gName 6) rfl sc__law_right.nd (pi_range1 (by rfl) T.n_range (pa_cons pe_int pa_nil)) (blkOk_by (own := [("many", 6)]) (N := nm__law_right) (sc := defScope s__law_right) (by decide +kernel)) (fun _ _ _ _ _ => pg_name (i := 6) sc__law_right.nd rfl (Or.inl rfl)) (fun _ _ _ _ _ => pts_nil) (fun _ _ _ _ _ => (by exact (pe_joinK (K := K) rfl (pe_lit "") (by exact (pe_lc (own := [("turn", 8)]) (g := gName 8) rfl sc__law_right.nd (by exact (pi_range1 (by rfl) T.n_range (pa_cons (pe_call G__law_draw (hr.mono (by decide)) rfl T.d__law_draw.g T.d__law_draw.F.kp b__law_draw .nil pass0 (pa_cons (pv 0) (pa_cons pe_int pa_nil))) pa_nil))) (blkOk_by (own := [("turn", 8)]) (N := nm__law_right) (by rfl)) (fun _ _ _ _ _ => pg_name (i := 8) sc__law_right.nd rfl (Or.inl rfl)) (fun _ _ _ _ _ => pts_nil) (fun _ _ _ _ _ => (by exact (pe_call G__law_pick (hr.mono (by decide)) rfl T.d__law_pick.g T.d__law_pick.F.kp b__law_pick .nil pass0 (pa_cons (pv 0) (pa_cons (pv 4) pa_nil)))))))))))))
      (pss_one (ps_ret (pe_cmpR (opEq (K := K) rfl hu64) (pe_lc (own := [("one", 7)]) (g := gName 7) rfl sc__law_right.nd (pi_list (pv 5)) (blkOk_by (own := [("one", 7)]) (N := nm__law_right) (sc := defScope s__law_right) (by decide +kernel)) (fun _ _ _ _ _ => pg_name (i := 7) sc__law_right.nd rfl (Or.inl rfl)) (fun _ _ _ _ _ => pts_one (pt_not (pt_val (pe_callQ G__law_string_right hgd (hr.mono (by decide)) rfl T.d__law_string_right.g T.d__law_string_right.F.kp b__law_string_right .nil pass0 (pa_cons (pv 7) pa_nil))))) (fun _ _ _ _ _ => (pv 7))) (pe_lst pa_nil) (nomark _)))))))))), ?_⟩
    tm_at "rd"
    have ecs : cs "\n" = [10] := by decide
    have esp : cs " " = [32] := by decide
    have l3 : ∀ x ∈ Tk.tails, x.length ≤ 5 := by decide
    have l4 : ∀ x ∈ Tk.nones, x.length ≤ 13 := by decide +kernel
    have l5 : ∀ x ∈ Tk.behind, x.length ≤ 3 := by decide
    have c3 : ∀ x ∈ Tk.tails, ∀ c ∈ x, c < 128 := by decide
    have c4 : ∀ x ∈ Tk.nones, ∀ c ∈ x, c < 128 := by decide +kernel
    have c5 : ∀ x ∈ Tk.behind, ∀ c ∈ x, c < 128 := by decide
    have hfl : ∀ ts : List Tk.T, flatDs (ts.map tokD) = true := flat_toks
    refine ⟨p, c, 12, rfl, hP, by decide, by decide, fun H1 r hP1 s1 r1 r2 => ?_⟩
    obtain ⟨j, rfl⟩ := Int.eq_ofNat_of_zero_le r1
    tm_at "rd"
    refine ⟨p, c, j, rfl, hP1, by omega, fun H2 q f n t L hP2 s2 hn hLd hq hL nf => ?_⟩
    have hne := hP1.ne nf
    have htl := (Tk.laid_length hLd).1
    have hta := laid_ascii hLd
    have htl2 : t.length ≤ 440 := by omega
    refine r_gtup hq rfl ?_
    tm_at "rd"
    -- the text itself, the text and a tail
    obtain ⟨r0, c0, e0⟩ := Tk.laid_tokens (x := []) hLd (by decide)
    rw [List.append_nil] at e0
    have nE : ∀ (a b : Nat) (ts' : List Tk.T) (t' : Tk.T), ts' ++ [t'] = L ++ [⟨Tk.sEnd, [], a, b⟩] → t'.sort = Tk.sNone → False := fun a b ts' t' e h => by
      rw [(last_inj e).2] at h
      exact absurd (show Tk.sEnd = Tk.sNone from h) (by decide)
    refine ⟨t, rfl, by omega, hta, fun ts' t' e' _ _ _ H3 p3 s3 n3 hL3 => ?_, fun ts' t' e' h => (nE _ _ _ _ (e'.symm.trans e0) h).elim⟩
    obtain ⟨rfl, _⟩ := last_inj (e'.symm.trans e0)
    tm_at "rd"
    have hP3 := hP2.same s3
    have ne3 := hP2.ne n3
    have hLf3 := hL.same s3
    intro a4 n4
    have s4 := same_new (o := .lst (Tk.tails.map fun y => V.str (tx y))) n4
    have hP4 := hP3.same s4
    have ne4 := hP3.ne n4
    tm_at "rd"
    refine ⟨p, c, a4, Tk.tails.map fun y => V.str (tx y), rfl, hP4, SqL.of upd_same, ne4.1, ne4.2, by decide, by decide, fun H5 x hP5 s5 hx => ?_⟩
    obtain ⟨tl1, htl1, rfl⟩ := List.mem_map.mp hx
    have k3 := l3 _ htl1
    have hLf5 := LstD.ps2 (hLf3.same s4) hP4 s5 hne.1 hne.2 (hfl _)
    have hLp5 := LstD.ps2 (hL3.same s4) hP4 s5 ne3.1 ne3.2 (hfl _)
    refine q_add_tx (by omega) ?_
    tm_at "rd"
    obtain ⟨r6, c6, e6⟩ := Tk.laid_tokens hLd htl1
    refine ⟨t ++ tl1, rfl, by rw [List.length_append]; omega, fun c hc => ?_, fun ts6 t6 e7 _ _ _ H6 p6 s6 n6 hL6 => ?_, fun ts' t' e' h => (nE _ _ _ _ (e'.symm.trans e6) h).elim⟩
    · rcases List.mem_append.mp hc with h | h
      · exact hta c h
      · exact c3 _ htl1 c h
    obtain ⟨rfl, _⟩ := last_inj (e7.symm.trans e6)
    tm_at "rd"
    have hP6 := hP5.same s6
    have hLf6 := hLf5.same s6
    intro a7 n7
    have s7 := same_new (o := .lst [.ref p3, .ref p6]) n7
    have small := toks_ok (m := 500) (t ++ tl1) (fun c hc => by
      rcases List.mem_append.mp hc with h | h
      · exact hta c h
      · exact c3 _ htl1 c h) (by rw [List.length_append]; omega)
    rw [e7, List.length_append, List.length_singleton] at small
    obtain ⟨sh, sd⟩ := toks_shows (Nat.le_refl 500) ts6 fun t ht => small.1 t (List.mem_append_left _ ht)
    have hl4 : 2 * (530 * ts6.length) + 2 ≤ 1000000 := by omega
    tm_at "rd"
    refine (two_shows sh sh sd sd).repr hl4 (.lst (SqL.of upd_same) (.cons (LstD.dp (LstD.same s7 (LstD.same s6 hLp5))) (.cons (LstD.dp (LstD.same s7 hL6)) .nil))) ?_
    tm_at "rd"
    intro a8 n8
    have s8 := same_new (o := .lst [.ref f, .ref f]) n8
    have hLf8 := (hLf6.same s7).same s8
    tm_at "rd"
    refine (two_shows sh sh sd sd).repr hl4 (.lst (SqL.of upd_same) (.cons (LstD.dp hLf8) (.cons (LstD.dp hLf8) .nil))) ?_
    refine q_ne_str ?_
    have hP8 := (hP6.same s7).same s8
    generalize upd (upd H6 a7 _) a8 _ = H8 at *
    tm_at "rd"
    rw [esp]
    refine q_add_tx (show t.length + 1 ≤ 1000000 by omega) ?_
    tm_at "rd"
    -- what it refuses
    refine ⟨rfl, fun H9 a9 s9 n9 h9 => ?_⟩
    have hP9 := hP8.same s9
    have ne9 := hP8.ne n9
    tm_at "rd"
    refine ⟨p, c, a9, Tk.nones.map fun y => V.str (tx y), rfl, hP9, SqL.of h9, ne9.1, ne9.2, by decide, by decide, fun H10 x hP10 s10 hx => ?_⟩
    obtain ⟨no, hno, rfl⟩ := List.mem_map.mp hx
    have k4 := l4 _ hno
    refine q_add_tx (by rw [List.length_append, List.length_singleton]; omega) ?_
    tm_at "rd"
    intro a11 n11
    have s11 := same_new (o := .lst (Tk.behind.map fun y => V.str (tx y))) n11
    have hP11 := hP10.same s11
    have ne11 := hP10.ne n11
    tm_at "rd"
    refine ⟨p, c, a11, Tk.behind.map fun y => V.str (tx y), rfl, hP11, SqL.of upd_same, ne11.1, ne11.2, by decide, by decide, fun H12 x hP12 s12 hx => ?_⟩
    obtain ⟨be, hbe, rfl⟩ := List.mem_map.mp hx
    have k5 := l5 _ hbe
    have hlen : ((t ++ [32]) ++ no ++ be).length ≤ 500 := by
      simp only [List.length_append, List.length_singleton]
      omega
    have hasc : ∀ c ∈ (t ++ [32]) ++ no ++ be, c < 128 := fun c hc => by
      rcases List.mem_append.mp hc with hc | hc
      · rcases List.mem_append.mp hc with hc | hc
        · rcases List.mem_append.mp hc with hc | hc
          · exact hta c hc
          · rw [List.mem_singleton.mp hc]
            decide
        · exact c4 _ hno c hc
      · exact c5 _ hbe c hc
    refine q_add_tx (by rw [← List.length_append]; omega) ?_
    tm_at "rd"
    obtain ⟨m, em⟩ := Tk.laid_none hLd hno hbe
    have em2 : t ++ (32 :: (no ++ be)) = (t ++ [32]) ++ no ++ be := by simp
    rw [em2] at em
    have small2 := (toks_ok (m := 500) _ hasc hlen).1 ⟨Tk.sNone, m, (Tk.posn (t ++ [32])).1, (Tk.posn (t ++ [32])).2⟩ (by rw [em]; simp)
    refine ⟨_, _, _, rfl, by omega, hasc, em, rfl, fun H13 p13 s13 n13 h13 => ?_⟩
    have hP13 := hP12.same s13
    tm_at "rd"
    refine (place_shows small2.2.2.2.2.1 small2.2.2.2.2.2).repr (by decide) (.lst (SqL.of h13) (.cons (.int _) (.cons (.int _) (.cons (.bl _) .nil)))) ?_
    tm_at "rd"
    refine ⟨_, _, rfl, rfl, ?_⟩
    rw [ecs, Tk.count_lines]
    tm_at "rd"
    refine ⟨tx (t ++ [32]), tx (cs "\n"), rfl, rfl, rfl, ?_, ?_⟩
    · rw [len_tx, List.length_append, List.length_singleton]
      exact Nat.le_trans (show t.length + 1 + 2 ≤ 3000 by omega) (by decide)
    unfold rNewStrs
    rw [ecs, Tk.split_lines]
    intro a14 n14
    have hll := Tk.lines_len (t ++ [32])
    have hlen2 : (t ++ [32]).length ≤ 441 := by rw [List.length_append, List.length_singleton]; omega
    have elast : ((Tk.linesOf (t ++ [32])).map fun y => V.str (tx y)) = ((Tk.linesOf (t ++ [32])).dropLast.map fun y => V.str (tx y)) ++ [V.str (tx ((Tk.linesOf (t ++ [32])).getLast (Tk.linesOf_ne (t ++ [32]))))] := by
      have e := congrArg (List.map fun y => V.str (tx y)) (List.dropLast_concat_getLast (Tk.linesOf_ne (t ++ [32])))
      rw [List.map_append] at e
      exact e.symm
    tm_at "rd"
    refine q_ix_lst (SqL.of upd_same) (by rw [elast]; exact atI_last _ _) ?_
    tm_at "rd"
    refine q_len_tx (Nat.le_trans (hll.2 _ (List.getLast_mem (Tk.linesOf_ne _))) (by omega)) ?_
    tm_at "rd"
    rw [← Tk.posn_col' (t ++ [32])]
    intro a15 n15
    tm_at "rd"
    refine (place_shows small2.2.2.2.2.1 small2.2.2.2.2.2).repr (by decide) (.lst (SqL.of upd_same) (.cons (.int _) (.cons (.int _) (.cons (.bl _) .nil)))) ?_
    refine q_ne_str ?_
    have hP15 := (hP13.same (same_new (o := .lst ((Tk.linesOf (t ++ [32])).map fun y => V.str (tx y))) n14)).same (same_new (o := .lst [.int ((Tk.posn (t ++ [32])).1 : Int), .int ((Tk.posn (t ++ [32])).2 : Int), .bl true]) n15)
    generalize upd (upd H13 a14 _) a15 _ = H15 at *
    tm_at "rd"
    intro a16 n16
    have ne16 := hP15.ne n16
    have s16 := same_new (o := .lst (someT.map fun y => V.str (tx y))) n16
    have hP16 := hP15.same s16
    have h16 : SqL K (upd H15 a16 (.lst (someT.map fun y => V.str (tx y)))) a16 (someT.map fun y => V.str (tx y)) := SqL.of upd_same
    change gName 4 _ _ (upd H15 a16 (.lst (someT.map fun y => V.str (tx y)))) _
    generalize upd H15 a16 (.lst (someT.map fun y => V.str (tx y))) = H16 at *
    tm_at "rd"
    intro a17 n17
    have ne17 := hP16.ne n17
    have s17 := same_new (o := .lst (fixedT.map fun y => V.str (tx y))) n17
    have hP17 := hP16.same s17
    have h17 := h16
    replace h17 := s17.seq h17
    have f17 : (upd H16 a17 (.lst (fixedT.map fun y => V.str (tx y)))) a17 = some (.lst (fixedT.map fun y => V.str (tx y))) := upd_same
    tm_at "rd"
    have m1 : ∀ z ∈ someT, z.length ≤ 3 ∧ ∀ c ∈ z, c < 128 := by decide +kernel
    have m2 : ∀ z ∈ fixedT, z.length ≤ 100 ∧ ∀ c ∈ z, c < 128 := by decide +kernel
    refine ⟨6, rfl, by decide, by decide, fun D hD => ?_⟩
    refine lc_pot (n := 6) (fun v => ∃ z : List Nat, (z.length ≤ 100 ∧ ∀ c ∈ z, c < 128) ∧ v = .str (tx z)) (by decide) hP17 (fun x H Q q => q) (fun x H18 Q2 s18 hP18 q => ?_) hD (fun H19 vs s19 hP19 hvs hl hA => ?_)
    · tm_at "rd"
      refine ⟨p, c, 14, rfl, hP18, by decide, by decide, fun H3 r hP3 s3 r1 r2 => ?_⟩
      obtain ⟨j, rfl⟩ := Int.eq_ofNat_of_zero_le r1
      tm_at "rd"
      refine ⟨j, rfl, by omega, by omega, fun D2 hD2 => ?_⟩
      refine lc_pot (n := (j : Int).toNat) (fun v => ∃ z, z ∈ someT ∧ v = .str (tx z)) (by omega) hP3 (fun _ _ _ q => q) (fun x H4 Q4 s4 hP4 q4 => ?_) hD2 (fun H5 vs s5 hP5 hvs hl hA => ?_)
      · tm_at "rd"
        refine ⟨p, c, a16, _, rfl, hP4, s4.seq ne16.1 ne16.2 (s3.seq ne16.1 ne16.2 (s18.seq ne16.1 ne16.2 h17)), ne16.1, ne16.2, by decide, by decide, fun H' x hP' s' hx => ?_⟩
        obtain ⟨z, hz, rfl⟩ := List.mem_map.mp hx
        exact q4 _ _ s' hP' ⟨z, hz, rfl⟩
      · obtain ⟨zs, rfl, hzs⟩ := txs_of hA
        have hzl : zs.length ≤ 13 := by
          rw [List.length_map] at hl
          omega
        have hsum : ∀ l : List (List Nat), (∀ z ∈ l, z ∈ someT) → l.flatten.length ≤ 3 * l.length ∧ (l.map fun z => (tx z).length).sum ≤ 3 * l.length := by
          intro l
          induction l with
          | nil => intro _; simp
          | cons z l ih =>
            intro h
            have i1 := ih fun y hy => h y (List.mem_cons_of_mem _ hy)
            have i2 := (m1 z (h z List.mem_cons_self)).1
            have i3 := len_tx z
            simp only [List.flatten_cons, List.length_append, List.map_cons, List.sum_cons, List.length_cons]
            omega
        obtain ⟨u1, u2⟩ := hsum zs hzs
        refine ⟨tx (cs ""), D2, zs.map tx, rfl, rfl, .inl (SqL.of (by rw [hvs, List.map_map]; rfl)), ?_, ?_⟩
        · rw [List.map_map, List.length_map]
          have e1 : (zs.map (Str.length ∘ tx)).sum = (zs.map fun z => (tx z).length).sum := rfl
          have e2 : (tx (cs "")).length = 0 := rfl
          show (zs.map (Str.length ∘ tx)).sum + zs.length * (tx (cs "")).length ≤ 16777216
          rw [e1, e2]
          omega
        · have e0 : cs "" = [] := by decide
          rw [e0, join0]
          refine q _ _ (s3.trans s5) hP5 ⟨zs.flatten, ⟨by omega, fun c hc => ?_⟩, rfl⟩
          obtain ⟨z, hz, hcz⟩ := List.mem_flatten.mp hc
          exact (m1 z (hzs z hz)).2 c hcz
    · refine q_add_lst (s19 _ _ f17 ne17.1 ne17.2) hvs ?_ (fun a20 n20 => ?_)
      · rw [List.length_map]
        show 11 + vs.length ≤ 10000000
        omega
      tm_at "rd"
      refine ⟨a20, rfl, ⟨_, SqL.of upd_same⟩, fun D3 hD3 => ?_⟩
      refine lc_none (K := K) (walk_list (K := K) (a := a20) (xs := (fixedT.map fun y => V.str (tx y)) ++ vs)) (fun H s => s.seq (SqL.of upd_same)) (fun x hx H6 Q6 s6 q6 => ?_) hD3 (fun H' s' h' => ?_)
      · have hz : ∃ z : List Nat, (z.length ≤ 100 ∧ ∀ c ∈ z, c < 128) ∧ x = .str (tx z) := by
          rcases List.mem_append.mp hx with h | h
          · obtain ⟨z, hz, rfl⟩ := List.mem_map.mp h
            exact ⟨z, m2 z hz, rfl⟩
          · exact hA x h
        obtain ⟨z, ⟨hz1, hz2⟩, rfl⟩ := hz
        tm_at "rd"
        refine ⟨z, rfl, by omega, hz2, fun H' s => ?_⟩
        tm_at "rd"
        exact q6 _ s
      · tm_at "rd"
        intro a21 n21
        refine q_eq_dat (.lst (SqL.of (same_new n21 _ _ h')) .nil) (.lst (SqL.of upd_same) .nil) (by rfl) (by rfl) ?_
        rw [eqv_nil']
        exact k _
end
end K15

set_option maxHeartbeats 4000000
/-! W15k: the law's head. -/
namespace K15
open PySem PySem.Spec PyProof.Rows L2 TL Ak
local macro_rules | `(tactic| tm_at "rd1") => `(tactic| with_reducible first
  | refine r_seq ?_ | refine r_ifS ?_ | refine r_ret ?_ | refine r_asg ?_ | refine r_next ?_ | refine r_drop ?_ | refine r_par ?_ | refine r_brk ?_ | refine r_cont ?_
  | refine r_op ?_ | refine r_c ?_ | refine r_cb ?_ | refine r_cons ?_ | refine r_nil ?_ | refine r_un ?_ | refine r_tB ?_ | refine r_test ?_ | refine r_not ?_ | refine r_and ?_ | refine r_or ?_ | refine r_andV ?_ | refine r_orV ?_ | refine r_notV ?_ | refine r_if ?_ | refine r_chain ?_
  | refine r_tup ?_ | refine r_lst ?_ | refine r_sl ?_ | refine r_part ?_ | refine r_nopart ?_ | refine r_call ?_ | refine r_callK ?_ | refine r_bm ?_ | refine r_bm0 ?_ | refine r_m1 ?_ | refine r_m0 ?_ | refine r_isN ?_ | refine r_notN ?_
  | refine r_gcons ?_ | refine r_gnil ?_ | refine r_gsub ?_ | refine r_name ?_ | refine r_ilist ?_ | refine r_itup ?_ | refine r_istr ?_ | refine r_irng1 ?_ | refine r_ienum ?_ | refine r_mko ?_ | refine r_yes ?_ | refine r_lc ?_ | refine r_for ?_ | refine turn_i ?_
  | refine r_bl ?_ | refine r_int ?_ | refine r_two ?_ | refine r_str ?_ | refine r_two1 ?_
  | refine b_t ?_ | refine b_f ?_ | refine b_nt ?_ | refine b_nf ?_ | refine q_isi_str ?_ | refine q_u ?_ | refine q_i0 ?_ | refine q_ipI ?_ | refine q_add_int ?_ | refine q_eq_int ?_ | refine q_ne_int ?_ | refine q_eq_tx ?_ | refine q_ne_tx ?_ | refine q_in_sg ?_ | refine q_ni_sg ?_)
local macro_rules | `(tactic| tm_at "rd2") => `(tactic| first
  | tm_at "rd1" | refine r_var rfl ?_ | refine r_aug rfl ?_ 
  | refine And.intro (small_n (by simp)) ?_ | tm_at "rdl")
local macro_rules | `(tactic| tm_at "rdl") => `(tactic| first | (with_reducible refine q_len_tx (by assumption) ?_) | (with_reducible refine q_len_tx (by omega) ?_))
local macro_rules | `(tactic| tm_at "rd") => `(tactic| repeat tm_at "rd2")

section
variable {P : Program} {w : World} {K : PySem.W.Frag} {mg : Str → Option Value} {base : Heap}
def sp_law (K : PySem.W.Frag) : Sp := fun vs H Q _ => ∃ (a : Addr) (ns : List Int), vs = [.ref a] ∧ SqL K H a (ns.map V.int) ∧ ns.length ≤ 63 ∧ ∀ H', Q (.bl true) H'
theorem ok_law (T : Tx K mg) (B : Bx K mg) : Quiet P w K mg base CX0 11 T.f_law T.fd_law ["script"] (sp_law K) := by
  have G__law_pot := ok_pot (P := P) (w := w) (base := base) T
  have G__law_right := ok_right (P := P) (w := w) (base := base) T B
  have b__law_pot := T.d__law_pot.F.binds (ps := ["script"]) fun _ _ _ _ _ _ us hl => match us, hl with | [_], _ => rfl
  have b__law_right := T.d__law_right.F.binds (ps := ["pot"]) fun _ _ _ _ _ _ us hl => match us, hl with | [_], _ => rfl
  refine quiet_of T.d_law.F sc_law (fun vs H Q E h => ?_) (fun cdv A outer s H vs Q E hgd hr h => ?_)
  · obtain ⟨a, ns, rfl, _⟩ := h
    rfl
  · obtain ⟨a, ns, rfl, hS, hn, k⟩ := h
    have hu := hu_of hr
    have hu64 := hr.units
    refine ⟨_, (pss_one (ps_ret (pe_callQ G__law_right hgd (hr.mono (by decide)) rfl T.d__law_right.g T.d__law_right.F.kp b__law_right .nil pass0 (pa_cons (pe_call G__law_pot (hr.mono (by decide)) rfl T.d__law_pot.g T.d__law_pot.F.kp b__law_pot .nil pass0 (pa_cons (pv 0) pa_nil)) pa_nil)))), ?_⟩
    tm_at "rd"
    refine ⟨a, ns, rfl, hS, hn, fun H' p c s1 hP _ _ => ?_⟩
    tm_at "rd"
    exact ⟨p, c, rfl, hP, fun H2 => k H2⟩
end
end K15

set_option maxHeartbeats 4000000
/-! W15l: what the top's written part says, put together. -/
namespace K15
open PySem PySem.Spec PyProof.Rows L2 TL Ak
section
variable {K : PySem.W.Frag} {h : Heap} {mg : Str → Option Value} {x : Str}
/-! each as a step of the end: what the written part says, and on -/
theorem then_def {G' : Prop} {st : Stmt} {f : Addr} {oc : Value} {od an : Option Addr} {osl : Array (Option Value)} {kV doc pm cdv ct : Value} (X : K.In h) (G : h.Ns mainGlobals mg) (a : PySem.W.nsIn K mainGlobals x = some (some (.ref f)))
    (l : K.lookup f = some ⟨oc, od, .func (PySem.W.fnOf x x (defArgs st) (defBody st) (defScope st) .none kV doc pm an cdv ct), osl⟩) (c : PySem.W.codeIn K cdv x = true) (k : PySem.W.keepIn K (.ref f) = true) (go : ∀ f fd, DefAt K mg x st f fd → G') : G' :=
  go f _ ⟨PySem.W.mg_of X G a, fun_mk l c k⟩
theorem then_none {G' : Prop} (X : K.In h) (G : h.Ns mainGlobals mg) (a : PySem.W.nsIn K mainGlobals x = some none) (go : mg x = none → G') : G' := go (PySem.W.mg_none_of X G a)
theorem then_int {G' : Prop} {i : Int} {t : Tok} (X : K.In h) (G : h.Ns mainGlobals mg) (a : PySem.W.nsIn K mainGlobals x = some (some (.int i t))) (go : (∃ u, mg x = some u ∧ RelV (.int i) u) → G') : G' := go ⟨_, PySem.W.mg_of X G a, t, rfl⟩
theorem then_str {G' : Prop} {s : String} {t : Tok} (X : K.In h) (G : h.Ns mainGlobals mg) (a : PySem.W.nsIn K mainGlobals x = some (some (.str (Str.ofString s) t))) (go : (∃ u, mg x = some u ∧ RelV (.str (tx (cs s))) u) → G') : G' := go ⟨_, PySem.W.mg_of X G a, rel_lit⟩
theorem then_tup {G' : Prop} {a : Addr} {od : Option Addr} {its : Array Value} {n : Nat} {sl : Array (Option Value)} {xs : List V} (X : K.In h) (G : h.Ns mainGlobals mg) (e : PySem.W.nsIn K mainGlobals x = some (some (.ref a)))
    (l : K.lookup a = some ⟨.type "tuple", od, .seq its n, sl⟩) (z : its.size ≤ 100) (v : Vals xs its.toList) (go : ∀ a, (∃ u, mg x = some u ∧ RelV (.ref a) u) → (∀ H : Hp, SqT K H a xs) → G') : G' :=
  go a ⟨_, PySem.W.mg_of X G e, rfl⟩ fun H => .inr ⟨_, its, n, l, rfl, rfl, Nat.le_trans z (by decide), v⟩
theorem sub_of {C D : Addr} (h1 : PySem.W.typeIn K (.ref D) = some (.type "type")) (h2 : PySem.W.isClsIn K D = true) (h3 : PySem.W.subIn K (.ref C) (.ref D) = some true) : PySem.W.kitOne K (.ref C) (.ref D) = some true := by
  unfold PySem.W.kitOne
  split
  · rfl
  · have h2' : (PySem.W.clsIn K D).isSome = true := h2
    unfold PySem.W.kitCls
    simp [h1, h2', h3]
theorem law_binds {f : Addr} {fd : FuncData} (F : Fun K "law" "law" s_law f fd) (s : Shared) (u : Value) : BindsTo s fd ⟨[u], []⟩ [("script", u)] := by
  obtain ⟨oc, od, kV, doc, pm, an, cdv, ct, osl, rfl, lk, hcd⟩ := F.ex
  exact .of_eq rfl
theorem then_bx {G' : Prop} {C D f : Addr} {nm q : Str} {N : Addr} {bs bm : List Value} {sn : List Str} {sub : List Value} {ab : Bool} {col : Option Bool} {dd : Option Addr} {k0 k1 k2 k3 k5 : Option Value}
    {oc : Value} {od an : Option Addr} {osl : Array (Option Value)} {kV doc pm cdv ct : Value} (X : K.In h) (G : h.Ns mainGlobals mg)
    (aC : PySem.W.nsIn K mainGlobals "BadText" = some (some (.ref C))) (aD : PySem.W.nsIn K mainGlobals "TongueError" = some (some (.ref D)))
    (aI : PySem.W.findIn K (.ref C) "__init__" = some (some (.ref f)))
    (lI : K.lookup f = some ⟨oc, od, .func (PySem.W.fnOf "__init__" "BadText.__init__" (defArgs s_BadText_init) (defBody s_BadText_init) (defScope s_BadText_init) .none kV doc pm an cdv ct), osl⟩)
    (cI : PySem.W.codeIn K cdv "BadText.__init__" = true) (kI : PySem.W.keepIn K (.ref f) = true)
    (xC : K.lookup C = some (excClassObj nm q C N bs bm true sn sub ab col dd k0 k1 k2 k3 k5 "ValueError.__new__")) (xR : PySem.HandSPX.refsVE bm = true)
    (sa : PySem.W.findIn K (.ref C) "__setattr__" = some (some (.builtin "object.__setattr__"))) (exC : PySem.W.subIn K (.ref C) (.type "BaseException") = some true) (tyC : PySem.W.typeIn K (.ref C) = some (.type "type")) (kC : PySem.W.keepIn K (.ref C) = true)
    (ga : PySem.W.findIn K (.ref C) "__getattribute__" = some (some (.builtin "BaseException.__getattribute__"))) (gg : PySem.W.findIn K (.ref C) "__getattr__" = some none) (hd : PySem.W.hasDictIn K C = true)
    (ha : PySem.W.findIn K (.ref C) "__class__" = some (some (.builtin "object.__class__"))) (hn : PySem.W.specialIn K (.builtin "object.__class__") "__get__" = some (some (.builtin "getset_descriptor.__get__")))
    (ht : PySem.W.takesIn K (.builtin "object.__class__") = some true) (hm : PySem.W.mroIn K C (.type "object") = some true) (sC : PySem.W.subIn K (.ref C) (.ref C) = some true)
    (tI : PySem.W.typeIn K (.ref f) = some (.type "function")) (nl : PySem.W.findIn K (.ref C) "line" = some none) (nc : PySem.W.findIn K (.ref C) "column" = some none)
    (tD : PySem.W.typeIn K (.ref D) = some (.type "type")) (iD : PySem.W.isClsIn K D = true) (sD : PySem.W.subIn K (.ref C) (.ref D) = some true) (go : Bx K mg → G') : G' :=
  go {
     C := C, D := D, fi := f, fdi := _, gC := PySem.W.mg_of X G aC, gD := PySem.W.mg_of X G aD, F := fun_mk lI cI kI, oex := ⟨⟨nm, q, N, bs, bm, sn, sub, ab, col, dd, k0, k1, k2, k3, k5, xC, xR⟩, sa, exC, tyC, kC⟩,
     xf := ⟨ga, gg, exC, hd⟩, exc := ⟨ga, gg, exC, hd, ha, hn, ht, hm⟩, exm := PySem.W.exm_ref exC hd tyC sC, sub := sub_of tD iD sD, iC := aI, tI := tI, nl := nl, nc := nc }
end
end K15

open PySem PySem.W PyProof.Rows
set_option maxHeartbeats 0 in
theorem PySem.Challenge.cw_asktongue_k15_tokens_holds : PySem.Challenge.rw_asktongue_k15_tokens.Holds := by
  w_on; o_law; k_head; (case hw => w_witness2)
  k_fill
  refine Ak.walk_ofQ (k := 11) (x := "script") (sp := K15.sp_law) rfl (by decide) rfl ⟨rfl, by decide, by decide⟩ rfl (fun w h Y => PySem.W.kIn_of Y) ?F ?S
  case F =>
    intro w mg fa h KX G hmg
    refine' K15.then_def (x := "has_signs") (st := K15.s_has_signs) KX G ?a ?l ?c ?k ?_
    (case a => k_is); (case l => k_is); (case c => k_is); (case k => k_is); intro f_has_signs fd_has_signs d_has_signs
    refine' K15.then_def (x := "is_name") (st := K15.s_is_name) KX G ?a ?l ?c ?k ?_
    (case a => k_is); (case l => k_is); (case c => k_is); (case k => k_is); intro f_is_name fd_is_name d_is_name
    refine' K15.then_def (x := "is_ask_name") (st := K15.s_is_ask_name) KX G ?a ?l ?c ?k ?_
    (case a => k_is); (case l => k_is); (case c => k_is); (case k => k_is); intro f_is_ask_name fd_is_ask_name d_is_ask_name
    refine' K15.then_def (x := "sort_of_run") (st := K15.s_sort_of_run) KX G ?a ?l ?c ?k ?_
    (case a => k_is); (case l => k_is); (case c => k_is); (case k => k_is); intro f_sort_of_run fd_sort_of_run d_sort_of_run
    refine' K15.then_def (x := "run_from") (st := K15.s_run_from) KX G ?a ?l ?c ?k ?_
    (case a => k_is); (case l => k_is); (case c => k_is); (case k => k_is); intro f_run_from fd_run_from d_run_from
    refine' K15.then_def (x := "next_in") (st := K15.s_next_in) KX G ?a ?l ?c ?k ?_
    (case a => k_is); (case l => k_is); (case c => k_is); (case k => k_is); intro f_next_in fd_next_in d_next_in
    refine' K15.then_def (x := "row_tokens") (st := K15.s_row_tokens) KX G ?a ?l ?c ?k ?_
    (case a => k_is); (case l => k_is); (case c => k_is); (case k => k_is); intro f_row_tokens fd_row_tokens d_row_tokens
    refine' K15.then_def (x := "split_of") (st := K15.s_split_of) KX G ?a ?l ?c ?k ?_
    (case a => k_is); (case l => k_is); (case c => k_is); (case k => k_is); intro f_split_of fd_split_of d_split_of
    refine' K15.then_def (x := "want_text") (st := K15.s_want_text) KX G ?a ?l ?c ?k ?_
    (case a => k_is); (case l => k_is); (case c => k_is); (case k => k_is); intro f_want_text fd_want_text d_want_text
    refine' K15.then_def (x := "tokens") (st := K15.s_tokens) KX G ?a ?l ?c ?k ?_
    (case a => k_is); (case l => k_is); (case c => k_is); (case k => k_is); intro f_tokens fd_tokens d_tokens
    refine' K15.then_def (x := "_law_pot") (st := K15.s__law_pot) KX G ?a ?l ?c ?k ?_
    (case a => k_is); (case l => k_is); (case c => k_is); (case k => k_is); intro f__law_pot fd__law_pot d__law_pot
    refine' K15.then_def (x := "_law_draw") (st := K15.s__law_draw) KX G ?a ?l ?c ?k ?_
    (case a => k_is); (case l => k_is); (case c => k_is); (case k => k_is); intro f__law_draw fd__law_draw d__law_draw
    refine' K15.then_def (x := "_law_pick") (st := K15.s__law_pick) KX G ?a ?l ?c ?k ?_
    (case a => k_is); (case l => k_is); (case c => k_is); (case k => k_is); intro f__law_pick fd__law_pick d__law_pick
    refine' K15.then_def (x := "_law_sort") (st := K15.s__law_sort) KX G ?a ?l ?c ?k ?_
    (case a => k_is); (case l => k_is); (case c => k_is); (case k => k_is); intro f__law_sort fd__law_sort d__law_sort
    refine' K15.then_def (x := "_law_is_run_sign") (st := K15.s__law_is_run_sign) KX G ?a ?l ?c ?k ?_
    (case a => k_is); (case l => k_is); (case c => k_is); (case k => k_is); intro f__law_is_run_sign fd__law_is_run_sign d__law_is_run_sign
    refine' K15.then_def (x := "_law_tokens") (st := K15.s__law_tokens) KX G ?a ?l ?c ?k ?_
    (case a => k_is); (case l => k_is); (case c => k_is); (case k => k_is); intro f__law_tokens fd__law_tokens d__law_tokens
    refine' K15.then_def (x := "_law_pieces") (st := K15.s__law_pieces) KX G ?a ?l ?c ?k ?_
    (case a => k_is); (case l => k_is); (case c => k_is); (case k => k_is); intro f__law_pieces fd__law_pieces d__law_pieces
    refine' K15.then_def (x := "_law_nones") (st := K15.s__law_nones) KX G ?a ?l ?c ?k ?_
    (case a => k_is); (case l => k_is); (case c => k_is); (case k => k_is); intro f__law_nones fd__law_nones d__law_nones
    refine' K15.then_def (x := "_law_laid") (st := K15.s__law_laid) KX G ?a ?l ?c ?k ?_
    (case a => k_is); (case l => k_is); (case c => k_is); (case k => k_is); intro f__law_laid fd__law_laid d__law_laid
    refine' K15.then_def (x := "_law_refused") (st := K15.s__law_refused) KX G ?a ?l ?c ?k ?_
    (case a => k_is); (case l => k_is); (case c => k_is); (case k => k_is); intro f__law_refused fd__law_refused d__law_refused
    refine' K15.then_def (x := "_law_string_right") (st := K15.s__law_string_right) KX G ?a ?l ?c ?k ?_
    (case a => k_is); (case l => k_is); (case c => k_is); (case k => k_is); intro f__law_string_right fd__law_string_right d__law_string_right
    refine' K15.then_def (x := "_law_right") (st := K15.s__law_right) KX G ?a ?l ?c ?k ?_
    (case a => k_is); (case l => k_is); (case c => k_is); (case k => k_is); intro f__law_right fd__law_right d__law_right
    refine' K15.then_def (x := "law") (st := K15.s_law) KX G ?a ?l ?c ?k ?_
    (case a => k_is); (case l => k_is); (case c => k_is); (case k => k_is); intro f_law fd_law d_law
    refine' K15.then_none (x := "abs") KX G ?a ?_; (case a => k_is); intro n_abs
    refine' K15.then_none (x := "all") KX G ?a ?_; (case a => k_is); intro n_all
    refine' K15.then_none (x := "divmod") KX G ?a ?_; (case a => k_is); intro n_divmod
    refine' K15.then_none (x := "enumerate") KX G ?a ?_; (case a => k_is); intro n_enumerate
    refine' K15.then_none (x := "int") KX G ?a ?_; (case a => k_is); intro n_int
    refine' K15.then_none (x := "isinstance") KX G ?a ?_; (case a => k_is); intro n_isinstance
    refine' K15.then_none (x := "len") KX G ?a ?_; (case a => k_is); intro n_len
    refine' K15.then_none (x := "range") KX G ?a ?_; (case a => k_is); intro n_range
    refine' K15.then_none (x := "repr") KX G ?a ?_; (case a => k_is); intro n_repr
    refine' K15.then_none (x := "str") KX G ?a ?_; (case a => k_is); intro n_str
    refine' K15.then_none (x := "sum") KX G ?a ?_; (case a => k_is); intro n_sum
    refine' K15.then_int (x := "MOST_SIGNS_words") (i := 12) KX G ?a ?_; (case a => k_is); intro c_MOST_SIGNS_words
    refine' K15.then_str (x := "SMALL") (s := "abcdefghijklmnopqrstuvwxyz") KX G ?a ?_; (case a => k_is); intro c_SMALL
    refine' K15.then_str (x := "GREAT") (s := "ABCDEFGHIJKLMNOPQRSTUVWXYZ") KX G ?a ?_; (case a => k_is); intro c_GREAT
    refine' K15.then_str (x := "FIGURES_words") (s := "0123456789") KX G ?a ?_; (case a => k_is); intro c_FIGURES_words
    refine' K15.then_tup (x := "RESERVED") (xs := [.str (Ak.tx (Ak.cs "ask")), .str (Ak.tx (Ak.cs "do")), .str (Ak.tx (Ak.cs "else")), .str (Ak.tx (Ak.cs "end")), .str (Ak.tx (Ak.cs "false")), .str (Ak.tx (Ak.cs "fn")), .str (Ak.tx (Ak.cs "fst")), .str (Ak.tx (Ak.cs "handle")), .str (Ak.tx (Ak.cs "if")), .str (Ak.tx (Ak.cs "in")), .str (Ak.tx (Ak.cs "let")), .str (Ak.tx (Ak.cs "match")), .str (Ak.tx (Ak.cs "module")), .str (Ak.tx (Ak.cs "rec")), .str (Ak.tx (Ak.cs "return")), .str (Ak.tx (Ak.cs "snd")), .str (Ak.tx (Ak.cs "then")), .str (Ak.tx (Ak.cs "true")), .str (Ak.tx (Ak.cs "use")), .str (Ak.tx (Ak.cs "with")), .str (Ak.tx (Ak.cs "int")), .str (Ak.tx (Ak.cs "bool")), .str (Ak.tx (Ak.cs "unit"))]) KX G ?a ?l ?z ?v ?_
    (case a => k_is); (case l => k_is); (case z => decide); (case v => repeat (first | exact .nil | refine .cons Ak.rel_lit ?_)); intro a_RESERVED c_RESERVED t_RESERVED
    refine' K15.then_int (x := "MOST_SIGNS_tokens") (i := 6000) KX G ?a ?_; (case a => k_is); intro c_MOST_SIGNS_tokens
    refine' K15.then_str (x := "REMARK") (s := "#") KX G ?a ?_; (case a => k_is); intro c_REMARK
    refine' K15.then_str (x := "DIGITS") (s := "0123456789") KX G ?a ?_; (case a => k_is); intro c_DIGITS
    refine' K15.then_str (x := "LETTERS") (s := "abcdefghijklmnopqrstuvwxyzABCDEFGHIJKLMNOPQRSTUVWXYZ") KX G ?a ?_; (case a => k_is); intro c_LETTERS
    refine' K15.then_tup (x := "DOUBLES") (xs := [.str (Ak.tx (Ak.cs "->")), .str (Ak.tx (Ak.cs "::"))]) KX G ?a ?l ?z ?v ?_
    (case a => k_is); (case l => k_is); (case z => decide); (case v => repeat (first | exact .nil | refine .cons Ak.rel_lit ?_)); intro a_DOUBLES c_DOUBLES t_DOUBLES
    refine' K15.then_str (x := "SINGLES") (s := "()[],:=<+-*|") KX G ?a ?_; (case a => k_is); intro c_SINGLES
    refine' K15.then_str (x := "FIGURES_tokens") (s := "figures") KX G ?a ?_; (case a => k_is); intro c_FIGURES_tokens
    refine' K15.then_str (x := "NAME") (s := "name") KX G ?a ?_; (case a => k_is); intro c_NAME
    refine' K15.then_str (x := "ASK") (s := "ask") KX G ?a ?_; (case a => k_is); intro c_ASK
    refine' K15.then_str (x := "WORD") (s := "word") KX G ?a ?_; (case a => k_is); intro c_WORD
    refine' K15.then_str (x := "SIGN") (s := "sign") KX G ?a ?_; (case a => k_is); intro c_SIGN
    refine' K15.then_str (x := "END") (s := "end") KX G ?a ?_; (case a => k_is); intro c_END
    refine' K15.then_str (x := "NONE") (s := "none") KX G ?a ?_; (case a => k_is); intro c_NONE
    have T : K15.Tx _ mg := {
      f_has_signs := f_has_signs, fd_has_signs := fd_has_signs, d_has_signs := d_has_signs,
      f_is_name := f_is_name, fd_is_name := fd_is_name, d_is_name := d_is_name,
      f_is_ask_name := f_is_ask_name, fd_is_ask_name := fd_is_ask_name, d_is_ask_name := d_is_ask_name,
      f_sort_of_run := f_sort_of_run, fd_sort_of_run := fd_sort_of_run, d_sort_of_run := d_sort_of_run,
      f_run_from := f_run_from, fd_run_from := fd_run_from, d_run_from := d_run_from,
      f_next_in := f_next_in, fd_next_in := fd_next_in, d_next_in := d_next_in,
      f_row_tokens := f_row_tokens, fd_row_tokens := fd_row_tokens, d_row_tokens := d_row_tokens,
      f_split_of := f_split_of, fd_split_of := fd_split_of, d_split_of := d_split_of,
      f_want_text := f_want_text, fd_want_text := fd_want_text, d_want_text := d_want_text,
      f_tokens := f_tokens, fd_tokens := fd_tokens, d_tokens := d_tokens,
      f__law_pot := f__law_pot, fd__law_pot := fd__law_pot, d__law_pot := d__law_pot,
      f__law_draw := f__law_draw, fd__law_draw := fd__law_draw, d__law_draw := d__law_draw,
      f__law_pick := f__law_pick, fd__law_pick := fd__law_pick, d__law_pick := d__law_pick,
      f__law_sort := f__law_sort, fd__law_sort := fd__law_sort, d__law_sort := d__law_sort,
      f__law_is_run_sign := f__law_is_run_sign, fd__law_is_run_sign := fd__law_is_run_sign, d__law_is_run_sign := d__law_is_run_sign,
      f__law_tokens := f__law_tokens, fd__law_tokens := fd__law_tokens, d__law_tokens := d__law_tokens,
      f__law_pieces := f__law_pieces, fd__law_pieces := fd__law_pieces, d__law_pieces := d__law_pieces,
      f__law_nones := f__law_nones, fd__law_nones := fd__law_nones, d__law_nones := d__law_nones,
      f__law_laid := f__law_laid, fd__law_laid := fd__law_laid, d__law_laid := d__law_laid,
      f__law_refused := f__law_refused, fd__law_refused := fd__law_refused, d__law_refused := d__law_refused,
      f__law_string_right := f__law_string_right, fd__law_string_right := fd__law_string_right, d__law_string_right := d__law_string_right,
      f__law_right := f__law_right, fd__law_right := fd__law_right, d__law_right := d__law_right,
      f_law := f_law, fd_law := fd_law, d_law := d_law,
      n_abs := n_abs,
      n_all := n_all,
      n_divmod := n_divmod,
      n_enumerate := n_enumerate,
      n_int := n_int,
      n_isinstance := n_isinstance,
      n_len := n_len,
      n_range := n_range,
      n_repr := n_repr,
      n_str := n_str,
      n_sum := n_sum,
      c_MOST_SIGNS_words := c_MOST_SIGNS_words,
      c_SMALL := c_SMALL,
      c_GREAT := c_GREAT,
      c_FIGURES_words := c_FIGURES_words,
      a_RESERVED := a_RESERVED, c_RESERVED := c_RESERVED, t_RESERVED := t_RESERVED,
      c_MOST_SIGNS_tokens := c_MOST_SIGNS_tokens,
      c_REMARK := c_REMARK,
      c_DIGITS := c_DIGITS,
      c_LETTERS := c_LETTERS,
      a_DOUBLES := a_DOUBLES, c_DOUBLES := c_DOUBLES, t_DOUBLES := t_DOUBLES,
      c_SINGLES := c_SINGLES,
      c_FIGURES_tokens := c_FIGURES_tokens,
      c_NAME := c_NAME,
      c_ASK := c_ASK,
      c_WORD := c_WORD,
      c_SIGN := c_SIGN,
      c_END := c_END,
      c_NONE := c_NONE }
    refine' K15.then_bx KX G ?aC ?aD ?aI ?lI ?cI ?kI ?xC ?xR ?sa ?exC ?tyC ?kC ?ga ?gg ?hd ?ha ?hn ?ht ?hm ?sC ?tI ?nl ?nc ?tD ?iD ?sD ?_
    (case aC => k_is); (case aD => k_is); (case aI => k_is); (case lI => k_is); (case cI => k_is); (case kI => k_is); (case xC => k_is); (case xR => decide +kernel)
    (case sa => k_is); (case exC => k_is); (case tyC => k_is); (case kC => k_is); (case ga => k_is); (case gg => k_is); (case hd => k_is); (case ha => k_is); (case hn => k_is); (case ht => k_is); (case hm => k_is)
    (case sC => k_is); (case tI => k_is); (case nl => k_is); (case nc => k_is); (case tD => k_is); (case iD => k_is); (case sD => k_is); intro B
    have e : fa = T.f_law := by
      have z := hmg.symm.trans T.d_law.g
      cases z
      rfl
    subst e
    exact ⟨T.fd_law, K15.law_binds T.d_law.F, fun base _ _ => K15.ok_law T B⟩
  case S =>
    intro K H a ns hl _ hS
    exact ⟨a, ns, rfl, hS, hl, fun _ => rfl⟩

