import PyProof.Rows.All
import Wide.All
import OpenK.AllK
import Wide.FinOn
import KE.KExcIs
import HandS.ForMost
import HandS.ForExc
import HandS.ExcInit
import HandS.ExcField
import HandS.ExcIs
import HandS.IsInst
import HandS.EndBits
import HandS.Flow
import HandS.Codes
import HandS.Walk
import HandS.Strs
import HandS.SetFor
import HandS.Zip
import HandS.Conv
import HandS.Style
import PyProof.Rows.SortShellAny
import KE.GoesEnum
import HandS.DictTup
import HandS.Dict
import HandS.TupAny
import HandS.Deep
import HandS.CallLocal
import PyProof.StrOps2
import HandS.TupMul
import HandS.SetKeys
import HandS.NoneIn
import HandS.Remove
import HandS.DictComp
import HandS.More
import KE.KDictPairs
import KE.KIndexOf
import HandS.HeadHook3
import HandS.WrittenGet
import KE.IntTextLaws
import HandS.StrMore
import PySem.Challenge.RW_asktongue_k68_whole_journals_cut_and_spo
set_option Elab.async false
set_option linter.all false
set_option maxRecDepth 100000
set_option maxHeartbeats 4000000
/-! Ak: what the laws of this program want beside the hand layer: defs that may call repr (no repr is under way around them), repr of nested data, isinstance of a caught error with fields. -/
namespace Ak
open PySem PySem.Spec PyProof.Rows L2

/-! ### a def's promise where no repr is under way -/
structure Quiet (P : Program) (w : World) (K : PySem.W.Frag) (mg : Str → Option Value) (base : Heap) (CX : CXT) (k : Nat) (f : Addr) (fd : FuncData) (ps : List Str) (sp : Sp) : Prop where
  many : ∀ vs H Q E, sp vs H Q E → vs.length = ps.length
  goes : ∀ (A : Around) (outer : List Env) (s : Shared) (H : Hp) (args : Args) (us : List Value) (vs : List V) (Q : VK) (E : XK), A.guards = some [] → Room k A → Env0 P w K mg base A outer s H →
    BindsTo s fd args (ps.zip us) → Vals vs us → sp vs H Q E → codeAny (model P w) A (.call (.ref f) args) (CR CX outer P w H s Q E) s
section
variable {P : Program} {w : World} {K : PySem.W.Frag} {mg : Str → Option Value} {base : Heap} {CX : CXT} {k j : Nat} {f : Addr} {fd : FuncData} {ps N : List Str} {sp sp' : Sp}
theorem Quiet.of (F : FnOk P w K mg base CX k f fd ps sp) : Quiet P w K mg base CX k f fd ps sp :=
  ⟨F.len, fun A outer s H args us vs Q E _ hr e b r q => F.run A outer s H args us vs Q E hr e b r q⟩
theorem Quiet.mono (F : Quiet P w K mg base CX j f fd ps sp) (h : j ≤ k) : Quiet P w K mg base CX k f fd ps sp :=
  ⟨F.many, fun A outer s H args us vs Q E hg hr e b r q => F.goes A outer s H args us vs Q E hg (hr.mono h) e b r q⟩

/-- a def of the text by its body, the body within a frame where no repr is under way -/
theorem quiet_of {x qual : Str} {st : Stmt} (F : Fun K x qual st f fd) (S : FnScope N ps (defScope st)) (many : ∀ vs H Q E, sp vs H Q E → vs.length = ps.length)
    (hbody : ∀ (cdv : Value) (A : Around) (outer : List Env) (s : Shared) (H : Hp) (vs : List V) (Q : VK) (E : XK), A.guards = some [] → Room k (A.deeper (envOfC qual (defScope st) s.heap.objs.size f cdv)) → sp vs H Q E →
      ∃ t, PSs (cxOf CX P w K mg base N qual (defScope st) f cdv A outer s H E).nox (defBody st) t ∧ t { nx := fun _ H' => Q .non H', rt := Q } (start N vs) H) :
    Quiet P w K mg base CX (k + 1) f fd ps sp := by
  obtain ⟨oc, od, kV, doc, pm, an, cdv, ct, osl, rfl, lk, hcd⟩ := F.ex
  refine ⟨many, fun A outer s H args us vs Q E hg hr e0 hb r hsp => ?_⟩
  have stay := fun b o e => (e0.bs b o e).1
  have inK : K.In s.heap := e0.mod.kin.keeps stay
  have free_ : s.heap.NoLimit := e0.mod.nolimit.keeps stay
  have ways : ∀ y ∈ ps.zip us, (defScope st).names.lookup y.1 = some .local ∨ ((defScope st).names.lookup y.1 = some .cell ∧ ((cellsFrom (s.heap.objs.size + 1) (defScope st).names []).lookup y.1).isSome = true) := by
    rintro ⟨n, v⟩ hy
    rcases S.par n (List.of_mem_zip hy).1 with q | q
    · exact Or.inl q
    · exact Or.inr ⟨q, PySem.W.cellsFrom_some _ _ _ (Or.inl q)⟩
  refine codeAny_call_function hr.depth (inK _ _ lk) rfl S.co S.gen rfl (PySem.W.codeRec_of inK hcd) (hb _ _ _ _ ?_)
  refine wpAny_newFunctionEnv_cells S.kind ways fun env he s1 x => ?_
  cases he
  refine ⟨free_.keeps x.toInCall.keep, codeAny_func ?_⟩
  obtain ⟨t, ht0, hq⟩ := hbody cdv A outer s H vs Q E hg (hr.deeper _) hsp
  have ht := ht0.nox
  have J := inv_start (CX := CX) (P := P) (w := w) (K := K) (mg := mg) (base := base) (E := E) S hr.hd e0 (many _ _ _ _ hsp) r x
  refine wpAny_mono (ht.run [] s1 (start N vs) H _ J hq) (fun fl s' hs => ?_) fun _ _ hs => hs
  cases fl with
  | brk => obtain ⟨_, _, _, q⟩ := hs; exact q.elim
  | cont => obtain ⟨_, _, _, q⟩ := hs; exact q.elim
  | next =>
    obtain ⟨_, H', I, q⟩ := hs
    exact ⟨V.non, H', I.os, I.bare, I.base, I.hok, rfl, q⟩
  | ret u =>
    obtain ⟨v, _, H', I, rv, q⟩ := hs
    exact ⟨v, H', I.os, I.bare, I.base, I.hok, rv, q⟩
end

section
variable {X : Cx} {CX : CXT} {k : Nat} {f : Addr} {fd : FuncData} {ps : List Str} {sp : Sp} {dvs : List V} {ds : List Value} {E : XK} {x : Str} {p pos : Pos} {e : Expr} {es : List Expr} {t : TA}
theorem quiet_call {pins : List (Addr × Obj)} {σ : L2.St} {H : Hp} {s : Shared} {Q : VK} {us : List Value} {vs : List V} (F : Quiet X.prog X.w X.K X.mg X.base CX k f fd ps sp) (hg : X.A.guards = some []) (hr : Room k X.A) (hb : Binds X.K fd ps ds) (hd : Vals dvs ds) (hx : Passes CX X E)
    (I : Inv X pins σ H s) (r : Vals vs us) (h : sp (vs ++ dvs) H Q E) : wpAny (model X.prog X.w) X.A (call (.ref f) us) (EP X pins σ Q) X.xe s := by
  have both : Vals (vs ++ dvs) (us ++ ds) := r.append hd
  have size_ : (us ++ ds).length = ps.length := both.length ▸ F.many _ _ _ _ h
  refine wpAny_call (codeAny_mono (F.goes X.A X.stack s H ⟨us, []⟩ (us ++ ds) (vs ++ dvs) Q E hg hr I.env0 (hb s us I.kIn size_) both h) fun res s' q => ?_)
  cases res with
  | error z => exact hx pins σ H s z s' I q
  | ok fl =>
    cases fl with
    | ret u => exact I.after q
    | _ => exact False.elim q
/-- f(e, ..) of such a def -/
theorem pe_callQ (F : Quiet X.prog X.w X.K X.mg X.base CX k f fd ps sp) (hg : X.A.guards = some []) (hr : Room k X.A) (hgl : Gl X x) (hm : X.mg x = some (.ref f)) (hk : PySem.W.keepIn X.K (.ref f) = true) (hb : Binds X.K fd ps ds) (hd : Vals dvs ds) (hx : Passes CX X E)
    (ha : PA X (e :: es) t) (hdb : (x == ("__debug__" : Str)) = false := by decide) (he : starEach (e :: es) X.env = (false, eval e X.env) :: starEach es X.env := by rfl) (hpl : (backTo pos (starEach es X.env)).any (·.1) = false := by rfl) :
    PE X (.Call (.Name x p) (e :: es) [] pos) (tCall sp dvs E t) := by
  constructor
  intro pins s σ H Q I h
  refine wpAny_Call_Name_kw (ld_glob I hgl hm ?_ hdb)
  refine PySem.W.callWith_K (h₀ := X.base) I.ok.mod.kin hk (thn (ha.run pos pins s σ H _ I h) ?_) he hpl
  rintro us s1 ⟨vs, H1, I1, r, q⟩
  exact ⟨I1.kIn, quiet_call F hg hr hb hd hx I1 r q⟩
end

/-! ### repr of data -/
def rRepr (K : PySem.W.Frag) : List V → Hp → VK → Prop := fun xs H Q => ∃ (v : V) (d : PyData), xs = [v] ∧ Dp K H v d ∧ d.showable = true ∧ d.hasDict = false ∧ d.depth ≤ 40 ∧ d.shown.length ≤ sizeLine ∧ Q (.str d.shown) H
theorem call_repr {X : Cx} (hg : X.A.guards = some []) (hu : X.A.units + 64 < cLine) : CallR X (.builtin "repr") (rRepr X.K) := by
  intro pins s σ H xs us Q I r h
  obtain ⟨v, d, rfl, hd, hs, hn, hp, hz, q⟩ := h
  obtain ⟨u, rfl, ru⟩ := vals1 r
  obtain ⟨as, R⟩ := Dp.reads I d v u hd ru
  have fin : ∀ (h' : Heap) (t : Tok) (tk : Nat), (∀ b o, s.heap.get? b = some o → h'.get? b = some o) → EP X pins σ Q (.str d.shown t) { s with heap := h', toks := tk } := fun h' t tk hk =>
    ⟨.str d.shown, H, I.kept (t' := tk) hk, ⟨t, rfl⟩, q⟩
  cases hd with
  | non =>
    obtain rfl : u = Value.none := ru
    exact PySem.P.repr_of_none (fin s.heap _ _ fun _ _ e => e)
  | bl b =>
    obtain rfl : u = Value.bool b := ru
    exact PySem.P.repr_of_bool (fin s.heap _ _ fun _ _ e => e)
  | int i =>
    obtain ⟨t, rfl⟩ := ru
    have hi : i.natAbs.log2 < 1920 := by simpa [PyData.showable] using hs
    exact PySem.P.repr_of_int hi (fin s.heap _ _ fun _ _ e => e)
  | str y =>
    obtain ⟨t, rfl⟩ := ru
    exact PySem.P.repr_of_str (fin s.heap _ _ fun _ _ e => e)
  | lst h1 h2 =>
    obtain rfl : u = Value.ref _ := ru
    exact repr_of_reads' R hs (PyData.noDict_hsm hn) hg (by omega) (fun _ _ e => e) (fun h' t tk hk => fin h' t tk hk) hz
  | tup h1 h2 =>
    obtain rfl : u = Value.ref _ := ru
    exact repr_of_reads' R hs (PyData.noDict_hsm hn) hg (by omega) (fun _ _ e => e) (fun h' t tk hk => fin h' t tk hk) hz

/-! ### isinstance of a caught error, fields or none -/
theorem call_isErr {X : Cx} {a D : Addr} {oe : Obj} {pn : List (Addr × Obj)} {dd : Addr} {fs : List (Str × V)} (C : ExcC X.K D) (hz : Zc (.ref D) (some dd) oe) (hf : ∃ vs, oe.data = .fields vs) :
    CallR (X.suite a ((a, oe) :: pn)) (.builtin "isinstance") (fun xs H Q => H dd = some (.xd fs) ∧ rIsE X.K D a xs H Q) := by
  intro pins s σ H xs us Q I r h
  obtain ⟨hdd, c, cv, b, rfl, hcv, e, q⟩ := h
  obtain ⟨u1, u2, rfl, r1, r2⟩ := vals2 r
  obtain rfl : u1 = Value.ref a := r1
  obtain rfl := hcv _ r2
  obtain ⟨hget, _⟩ := I.pin (a, oe) (List.mem_append.mpr (.inl List.mem_cons_self))
  obtain ⟨vs, hv⟩ := hf
  have hx : ObjOk X.prog X.w H s.heap dd (.xd fs) := I.hok dd _ hdd
  obtain ⟨mA, hns, _⟩ := hx
  obtain ⟨od, ho, _⟩ := lookIn_ns hns
  have J : PySem.W.InstAt s.heap a oe D (some od) := ⟨hget, hz.1, by unfold PySem.W.notCls; rw [hv] <;> rfl, by rw [hz.2]; exact ho⟩
  exact PySem.W.kia_one (PySem.W.kitx_exc (by obtain ⟨cd, hc, _⟩ := PySem.W.any_some C.hd; rw [hc]; rfl) C.hg C.hk C.hs C.ha C.hn C.ht C.hm) I.kIn J e (fun z => nomatch z) fun tk => ⟨.bl b, H, I.kept (t' := tk) fun _ _ z => z, rfl, q⟩

/-! ### a call with names alone -/
section
variable {X : Cx} {CX : CXT} {k : Nat} {f : Addr} {fd : FuncData} {ps ks : List Str} {sp : Sp} {E : XK} {x : Str} {p pos : Pos} {kws : List Keyword} {tk : TA} {g : List Value → List Value → List Value} {gV : List V → List V → List V}
theorem pe_callN (F : FnOk X.prog X.w X.K X.mg X.base CX k f fd ps sp) (hr : Room k X.A) (hg : Gl X x) (hm : X.mg x = some (.ref f)) (hk : PySem.W.keepIn X.K (.ref f) = true) (hb : KBinds X.K fd ps ks g gV) (hx : Passes CX X E)
    (hkw : PK X kws tk) (hall : (backToKw pos (keywordEach kws X.env)).all (·.1.isSome) = true := by rfl) (hks : (backToKw pos (keywordEach kws X.env)).filterMap (·.1) = ks := by rfl) (hdb : (x == ("__debug__" : Str)) = false := by decide)
    (hpl : ((backTo pos (starEach [] X.env)).any (·.1) || (backToKw pos (keywordEach kws X.env)).any (·.1.isNone)) = false := by rfl) : PE X (.Call (.Name x p) [] kws pos) (tCallK sp gV E tNil tk) := by
  constructor
  intro pins s σ H Q I h
  refine wpAny_Call_Name_kw (ld_glob I hg hm ?_ hdb)
  refine PySem.W.callWith_KW0 (h₀ := X.base) I.ok.mod.kin hk hall (thn (hkw.run pos pins s σ H _ I h) ?_) hpl
  rintro ws s2 ⟨zs, H2, I2, rz, q2⟩
  refine ⟨I2.kIn, ?_⟩
  rw [hks]
  exact run_fnk (us := []) (vs := []) F hr hb hx I2 .nil rz q2
/-- one parameter, given by its place or by its name -/
theorem kbinds1 {K : PySem.W.Frag} {fd : FuncData} {n : Str} (h0 : ∀ u : Value, bindArgs fd ⟨[u], []⟩ = pure [(n, u)]) (h1 : ∀ u : Value, bindArgs fd ⟨[], [(n, u)]⟩ = pure [(n, u)]) : KBinds K fd [n] [n] (fun us ws => us ++ ws) (fun vs zs => vs ++ zs) where
  to := fun s us ws _ hl => by
    cases us with
    | cons u r =>
      have e : r = [] ∧ ws = [] := by
        simp only [List.cons_append, List.length_cons, List.length_append, List.length_nil] at hl
        exact ⟨List.length_eq_zero_iff.mp (by omega), List.length_eq_zero_iff.mp (by omega)⟩
      obtain ⟨rfl, rfl⟩ := e
      exact BindsTo.of_eq (h0 u)
    | nil =>
      cases ws with
      | nil => simp at hl
      | cons u r =>
        have e : r = [] := by
          simp only [List.nil_append, List.length_cons, List.length_nil] at hl
          exact List.length_eq_zero_iff.mp (by omega)
        subst e
        exact BindsTo.of_eq (h1 u)
  rel := fun r r' => r.append r'
end

/-! ### operators by whatever their operands are -/
def rAddA (K : PySem.W.Frag) : R2 := fun x y H Q => rI0 (fun i j => .int (i + j)) x y H Q ∨ (∃ i j, x = .str i ∧ y = .str j ∧ i.length + j.length ≤ sizeLine ∧ Q (.str (i ++ j)) H) ∨ rCat x y H Q ∨ rCatT K x y H Q
def rMulA : R2 := fun x y H Q => rI CMul (fun i j => .int (i * j)) x y H Q ∨ rRep x y H Q
def rEqA (K : PySem.W.Frag) : R2 := fun x y H Q => rEq x y H Q ∨ rEqD K x y H Q
def rNeA (K : PySem.W.Frag) : R2 := fun x y H Q => rNe x y H Q ∨ rNeD K x y H Q
def rInA (K : PySem.W.Frag) : R2 := fun x y H Q => rIn K false x y H Q ∨ ∃ (c : Nat) (z : Str), x = .str ⟨#[c]⟩ ∧ y = .str z ∧ Q (.bl (decide (c ∈ z.cps.toList))) H
def rNiA (K : PySem.W.Frag) : R2 := fun x y H Q => rIn K true x y H Q ∨ ∃ (c : Nat) (z : Str), x = .str ⟨#[c]⟩ ∧ y = .str z ∧ Q (.bl (!decide (c ∈ z.cps.toList))) H
def rSlA3 (K : PySem.W.Frag) : V → Option Int → Option Int → Hp → VK → Prop := fun x lo hi H Q => rSlL K x lo hi H Q ∨ rSlS x lo hi H Q ∨ rSlT K x lo hi H Q
section
variable {X : Cx}
theorem or_op {f : Value → Value → Sem Value} {r r' : R2} (h : OpR X f r) (h' : OpR X f r') : OpR X f (fun x y H Q => r x y H Q ∨ r' x y H Q) := by
  intro pins s σ H x y v u Q I rx ry q
  rcases q with q | q
  · exact h pins s σ H x y v u Q I rx ry q
  · exact h' pins s σ H x y v u Q I rx ry q
/-- a + b: ints, texts, lists, tuples -/
theorem opAdd {K : PySem.W.Frag} (hK : X.K = K) : OpR X (binaryOp .Add) (rAddA K) := hK ▸ or_op op_add (or_op op_add_str (or_op op_cat op_catT))
/-- a * b: ints (the left one small), a list and an int -/
theorem opMul : OpR X (binaryOp .Mult) rMulA := or_op op_mul op_rep
/-- a == b, a != b: scalars; data -/
theorem opEq {K : PySem.W.Frag} (hK : X.K = K) (hu : X.A.units + 64 < cLine) : OpR X (compareOp .Eq) (rEqA K) := hK ▸ or_op op_eq (op_eqD hu)
theorem opNe {K : PySem.W.Frag} (hK : X.K = K) (hu : X.A.units + 64 < cLine) : OpR X (compareOp .NotEq) (rNeA K) := hK ▸ or_op op_ne (op_neD hu)
/-- a in b: one of a list or a tuple of flat things; one sign of a text -/
theorem opIn {K : PySem.W.Frag} (hK : X.K = K) : OpR X (compareOp .In) (rInA K) := hK ▸ or_op op_in_seq op_in_sign
theorem opNi {K : PySem.W.Frag} (hK : X.K = K) : OpR X (compareOp .NotIn) (rNiA K) := hK ▸ or_op op_notIn_seq op_notIn_sign
theorem slAny {K : PySem.W.Frag} (hK : X.K = K) : SlR X (rSlA3 K) := hK ▸ sl_list.or (sl_str.or sl_tup)
theorem ixAny {K : PySem.W.Frag} (hK : X.K = K) : IxR X (rIx K) := hK ▸ ix_seq
/-- built-ins -/
def rLenA (K : PySem.W.Frag) : List V → Hp → VK → Prop := fun xs H Q => ∃ x n, xs = [x] ∧ LenV K x H n ∧ Q (.int n) H
def rListA (K : PySem.W.Frag) : List V → Hp → VK → Prop := fun xs H Q => ∃ p ys, xs = [.ref p] ∧ (SqL K H p ys ∨ SqT K H p ys) ∧ ∀ l, H l = none → Q (.ref l) (upd H l (.lst ys))
def rJoinA (K : PySem.W.Frag) : V → List V → Hp → VK → Prop := fun x xs H Q => ∃ (z : Str) (p : Addr) (ys : List Str), x = .str z ∧ xs = [.ref p] ∧ (SqL K H p (ys.map V.str) ∨ SqT K H p (ys.map V.str)) ∧ (ys.map Str.length).sum + z.length * ys.length ≤ 16777216 ∧ Q (.str (Txt.join z ys)) H
theorem caLen {K : PySem.W.Frag} (hK : X.K = K) : CallR X (.builtin "len") (rLenA K) := hK ▸ call_len
theorem caIsi {K : PySem.W.Frag} (hK : X.K = K) : CallR X (.builtin "isinstance") (rIsi K) := hK ▸ call_isi
theorem caSum {K : PySem.W.Frag} (hK : X.K = K) (hc : X.calm = true) : CallR X (.builtin "sum") (rSum K) := hK ▸ cr_sum hc
theorem caAll {K : PySem.W.Frag} (hK : X.K = K) (hc : X.calm = true) : CallR X (.builtin "all") (rAll K) := hK ▸ cr_all hc
theorem caAny {K : PySem.W.Frag} (hK : X.K = K) (hc : X.calm = true) : CallR X (.builtin "any") (rAny K) := hK ▸ cr_any hc
theorem caRepr {K : PySem.W.Frag} (hK : X.K = K) (hg : X.A.guards = some []) (hu : X.A.units + 64 < cLine) : CallR X (.builtin "repr") (rRepr K) := hK ▸ call_repr hg hu
theorem caList {K : PySem.W.Frag} (hK : X.K = K) : CallR X (.type "list") (rListA K) := hK ▸ call_list_of
end
end Ak

set_option maxHeartbeats 4000000
/-! AkRead: words for the readings. -/
namespace Ak
open PySem PySem.Spec PyProof.Rows L2 TL

/-- one sign -/
abbrev sg (c : Nat) : V := .str ⟨#[c]⟩
/-- a text of signs -/
abbrev tx (l : List Nat) : Str := ⟨l.toArray⟩
/-- the signs of a written text -/
def cs (s : String) : List Nat := s.toList.map Char.toNat
theorem tl_tx (l : List Nat) : tl (tx l) = l := rfl
theorem tx_tl (z : Str) : tx (tl z) = z := mk_tl z
theorem len_tx (l : List Nat) : (tx l).length = l.length := by rw [len_tl, tl_tx]
theorem tx_app (a b : List Nat) : tx a ++ tx b = tx (a ++ b) := ext_tl (by rw [tl_append, tl_tx, tl_tx, tl_tx])
theorem tx_inj {a b : List Nat} (h : tx a = tx b) : a = b := by
  have := congrArg tl h
  exact this
theorem same_new {H : Hp} {p : Addr} {o : HO} (h : H p = none) : Same H (upd H p o) := fun b x e => by
  rw [upd_ne (ne_of_none e h)]
  exact e
theorem Same.tup {K : PySem.W.Frag} {H H' : Hp} {a : Addr} {xs : List V} (e : Same H H') (h : SqT K H a xs) : SqT K H' a xs := by
  rcases h with (h | ⟨o, h⟩) | h
  · exact .inl (.inl (e _ _ h))
  · exact .inl (.inr ⟨o, e _ _ h⟩)
  · exact .inr h
mutual
theorem Dp.same {K : PySem.W.Frag} {H H' : Hp} (e : Same H H') : ∀ {v : V} {d : PyData}, Dp K H v d → Dp K H' v d
  | _, _, .non => .non
  | _, _, .bl b => .bl b
  | _, _, .int i => .int i
  | _, _, .str x => .str x
  | _, _, .lst h1 h2 => .lst (e.seq h1) (DpAll.same e h2)
  | _, _, .tup h1 h2 => .tup (Same.tup e h1) (DpAll.same e h2)
theorem DpAll.same {K : PySem.W.Frag} {H H' : Hp} (e : Same H H') : ∀ {vs : List V} {ds : List PyData}, DpAll K H vs ds → DpAll K H' vs ds
  | _, _, .nil => .nil
  | _, _, .cons a b => .cons (Dp.same e a) (DpAll.same e b)
end
theorem DpAll.app {K : PySem.W.Frag} {H : Hp} : ∀ {vs ws : List V} {ds es : List PyData}, DpAll K H vs ds → DpAll K H ws es → DpAll K H (vs ++ ws) (ds ++ es)
  | _, _, _, _, .nil, b => b
  | _, _, _, _, .cons a r, b => .cons a (DpAll.app r b)
theorem DpAll.length {K : PySem.W.Frag} {H : Hp} : ∀ {vs : List V} {ds : List PyData}, DpAll K H vs ds → vs.length = ds.length
  | _, _, .nil => rfl
  | _, _, .cons _ r => by rw [List.length_cons, List.length_cons, DpAll.length r]
theorem DpAll.get {K : PySem.W.Frag} {H : Hp} : ∀ {vs : List V} {ds : List PyData} {i : Nat} {d : PyData}, DpAll K H vs ds → ds[i]? = some d → ∃ v, vs[i]? = some v ∧ Dp K H v d
  | _, _, _, _, .nil, h => by simp at h
  | _, _, 0, _, .cons a _, h => ⟨_, rfl, by have e := Option.some.inj h; subst e; exact a⟩
  | _, _, i + 1, _, .cons _ r, h => DpAll.get (i := i) r h
theorem DpAll.take {K : PySem.W.Frag} {H : Hp} : ∀ {vs : List V} {ds : List PyData} (n : Nat), DpAll K H vs ds → DpAll K H (vs.take n) (ds.take n)
  | _, _, 0, _ => .nil
  | _, _, _ + 1, .nil => .nil
  | _, _, n + 1, .cons a r => .cons a (DpAll.take n r)
theorem DpAll.drop {K : PySem.W.Frag} {H : Hp} : ∀ {vs : List V} {ds : List PyData} (n : Nat), DpAll K H vs ds → DpAll K H (vs.drop n) (ds.drop n)
  | _, _, 0, r => r
  | _, _, _ + 1, .nil => .nil
  | _, _, n + 1, .cons _ r => DpAll.drop n r

/-! ### comprehensions without effects -/
section
variable {g : TG} {tt : TT} {te : TE} {σ : L2.St} {H1 : Hp} {i : Nat}
theorem wipe_one (σ : L2.St) (i : Nat) (x : Option V) : wipe ((wipe σ [i]).set i x) [i] = wipe σ [i] := by
  show (((σ.set i none).set i x).set i none) = σ.set i none
  rw [List.set_set, List.set_set]
/-- over a text, sign by sign -/
theorem lc_txt {z : Str} {D : Addr} {Qd : Hp → Prop} (p : Nat → Bool) (f : Nat → V) (hz : z.length < sizeLine)
    (ht : ∀ c ∈ tl z, ∀ (H : Hp) (Q : Bool → Hp → Prop), Same H1 H → Q (p c) H → tt ((wipe σ [i]).set i (some (sg c))) H Q)
    (he : ∀ c ∈ tl z, p c = true → ∀ (H : Hp) (Q : VK), Same H1 H → Q (f c) H → te ((wipe σ [i]).set i (some (sg c))) H Q)
    (hD : H1 D = none) (hd : Qd (upd H1 D (.lst (((tl z).filter p).map f)))) :
    ∃ W : Nat → Nat → Hp → Prop, (∃ m, W 0 m (upd H1 D (.lst []))) ∧ ∀ j m H, W j m H →
      ((Its z).stop j H ∧ Qd H) ∨ ((Its z).go j H ∧ ∃ Nx : Hp → Prop, (∀ H', Nx H' → ∃ m', m' < m ∧ W (j + 1) m' H') ∧ ∀ x H', (Its z).yld j H x H' → gName i x (wipe σ [i]) H' fun σ2 H2 => wipe σ2 [i] = wipe σ [i] ∧ tt σ2 H2 fun b H3 =>
        if b = true then te σ2 H3 fun y H4 => ∃ acc, H4 D = some (.lst acc) ∧ acc.length < sizeLine ∧ Nx (upd H4 D (.lst (acc ++ [y]))) else Nx H3) := by
  refine lc_it (g := gName i) (walk_str (z := z)) (fun j H => H = upd H1 D (.lst ((((tl z).take j).filter p).map f))) rfl (fun _ _ _ _ => trivial) ?_ ?_
  · rintro j x H H' hj rfl ⟨rfl, c, hc, rfl⟩
    have hc' : (tl z)[j]? = some c := by simpa [tl] using hc
    have hm : c ∈ tl z := List.mem_of_getElem? hc'
    have et : (tl z).take (j + 1) = (tl z).take j ++ [c] := by
      rw [List.take_add_one, hc']
      rfl
    refine ⟨wipe_one σ i _, ht c hm _ _ (same_new hD) ?_⟩
    cases hp : p c with
    | true =>
      rw [if_pos rfl]
      refine he c hm hp _ _ (same_new hD) ⟨_, upd_same, ?_, ?_⟩
      · have l1 : ((((tl z).take j).filter p).map f).length ≤ (tl z).length := by
          rw [List.length_map]
          exact Nat.le_trans (List.length_filter_le _ _) (by rw [List.length_take]; omega)
        rw [len_tl] at hz
        omega
      · rw [upd_upd, et, List.filter_append, List.map_append]
        simp [hp]
    | false =>
      rw [if_neg Bool.false_ne_true, et, List.filter_append]
      simp [hp]
  · rintro H rfl
    have e : (tl z).take z.cps.size = tl z := List.take_of_length_le (by simp [tl])
    rw [e]
    exact hd
/-- over a list or a tuple: the walk's items xs -/
theorem lc_seq {J : It} {G : Hp → Prop} {xs : List V} {D : Addr} {Qd : Hp → Prop} (w : Walk J xs.length G (YAt xs)) (p : V → Bool) (f : V → V) (hz : xs.length < sizeLine) (hG : ∀ H, Same H1 H → G H)
    (ht : ∀ x ∈ xs, ∀ (H : Hp) (Q : Bool → Hp → Prop), Same H1 H → Q (p x) H → tt ((wipe σ [i]).set i (some x)) H Q)
    (he : ∀ x ∈ xs, p x = true → ∀ (H : Hp) (Q : VK), Same H1 H → Q (f x) H → te ((wipe σ [i]).set i (some x)) H Q)
    (hD : H1 D = none) (hd : Qd (upd H1 D (.lst ((xs.filter p).map f)))) :
    ∃ W : Nat → Nat → Hp → Prop, (∃ m, W 0 m (upd H1 D (.lst []))) ∧ ∀ j m H, W j m H →
      (J.stop j H ∧ Qd H) ∨ (J.go j H ∧ ∃ Nx : Hp → Prop, (∀ H', Nx H' → ∃ m', m' < m ∧ W (j + 1) m' H') ∧ ∀ x H', J.yld j H x H' → gName i x (wipe σ [i]) H' fun σ2 H2 => wipe σ2 [i] = wipe σ [i] ∧ tt σ2 H2 fun b H3 =>
        if b = true then te σ2 H3 fun y H4 => ∃ acc, H4 D = some (.lst acc) ∧ acc.length < sizeLine ∧ Nx (upd H4 D (.lst (acc ++ [y]))) else Nx H3) := by
  refine lc_it (g := gName i) w (fun j H => H = upd H1 D (.lst (((xs.take j).filter p).map f))) rfl (fun j H _ e => by subst e; exact hG _ (same_new hD)) ?_ ?_
  · rintro j x H H' hj rfl ⟨rfl, hc'⟩
    have hm : x ∈ xs := List.mem_of_getElem? hc'
    have et : xs.take (j + 1) = xs.take j ++ [x] := by
      rw [List.take_add_one, hc']
      rfl
    refine ⟨wipe_one σ i _, ht x hm _ _ (same_new hD) ?_⟩
    cases hp : p x with
    | true =>
      rw [if_pos rfl]
      refine he x hm hp _ _ (same_new hD) ⟨_, upd_same, ?_, ?_⟩
      · have l1 : (((xs.take j).filter p).map f).length ≤ xs.length := by
          rw [List.length_map]
          exact Nat.le_trans (List.length_filter_le _ _) (by rw [List.length_take]; omega)
        omega
      · rw [upd_upd, et, List.filter_append, List.map_append]
        simp [hp]
    | false =>
      rw [if_neg Bool.false_ne_true, et, List.filter_append]
      simp [hp]
  · rintro H rfl
    rw [List.take_length]
    exact hd
end

/-! ### single steps -/
theorem bif_t {c : Bool} {A B : Prop} (h : c = true) (a : A) : if c = true then A else B := by rw [if_pos h]; exact a
theorem bif_f {c : Bool} {A B : Prop} (h : c = false) (b : B) : if c = true then A else B := by rw [h, if_neg Bool.false_ne_true]; exact b
theorem biff {c : Bool} {A B : Prop} (ht : c = true → A) (hf : c = false → B) : if c = true then A else B := by
  cases c with
  | true => rw [if_pos rfl]; exact ht rfl
  | false => rw [if_neg Bool.false_ne_true]; exact hf rfl
section
variable {K : PySem.W.Frag} {H : Hp} {Q : VK}
theorem q_ix_tx {l : List Nat} {j c : Nat} (hz : l.length ≤ 100000) (h : l[j]? = some c) (q : Q (sg c) H) : rIx K (.str (tx l)) (.int (j : Int)) H Q :=
  .inr (.inr ⟨tx l, _, c, rfl, rfl, by rw [len_tx]; exact Nat.le_trans hz (by decide), atI_nat h, q⟩)
theorem q_ix_lst {p : Addr} {xs : List V} {i : Int} {v : V} (hp : SqL K H p xs) (h : atI xs i = some v) (q : Q v H) : rIx K (.ref p) (.int i) H Q := .inl ⟨p, xs, i, v, rfl, rfl, hp, h, q⟩
theorem q_ix_tup {p : Addr} {xs : List V} {i : Int} {v : V} (hp : SqT K H p xs) (h : atI xs i = some v) (q : Q v H) : rIx K (.ref p) (.int i) H Q := .inr (.inl ⟨p, xs, i, v, rfl, rfl, hp, h, q⟩)
theorem q_in_sg {c : Nat} {l : List Nat} (q : Q (.bl (decide (c ∈ l))) H) : rInA K (sg c) (.str (tx l)) H Q := .inr ⟨c, tx l, rfl, rfl, q⟩
theorem q_ni_sg {c : Nat} {l : List Nat} (q : Q (.bl (!decide (c ∈ l))) H) : rNiA K (sg c) (.str (tx l)) H Q := .inr ⟨c, tx l, rfl, rfl, q⟩
theorem flat_strs (ys : List (List Nat)) : (ys.map fun y => V.str (tx y)).all flatV = true := by
  rw [List.all_eq_true]
  intro x hx
  obtain ⟨y, _, rfl⟩ := List.mem_map.mp hx
  rfl
theorem inV_strs (l : List Nat) (ys : List (List Nat)) : inV (.str (tx l)) (ys.map fun y => V.str (tx y)) = ys.contains l := by
  unfold inV
  rw [Bool.eq_iff_iff, List.any_eq_true, List.contains_iff_mem]
  constructor
  · rintro ⟨x, hx, e⟩
    obtain ⟨y, hy, rfl⟩ := List.mem_map.mp hx
    have e' : (tx y == tx l) = true := e
    have := tx_inj (eq_of_beq e')
    subst this
    exact hy
  · intro h
    refine ⟨.str (tx l), List.mem_map.mpr ⟨l, h, rfl⟩, ?_⟩
    show (tx l == tx l) = true
    exact beq_self_eq_true _
theorem q_in_txs {l : List Nat} {p : Addr} {ys : List (List Nat)} (hp : SqL K H p (ys.map fun y => V.str (tx y)) ∨ SqT K H p (ys.map fun y => V.str (tx y))) (q : Q (.bl (ys.contains l)) H) : rInA K (.str (tx l)) (.ref p) H Q :=
  .inl ⟨p, _, rfl, hp, rfl, flat_strs ys, by rw [inV_strs]; exact q⟩
theorem q_ni_txs {l : List Nat} {p : Addr} {ys : List (List Nat)} (hp : SqL K H p (ys.map fun y => V.str (tx y)) ∨ SqT K H p (ys.map fun y => V.str (tx y))) (q : Q (.bl (!ys.contains l)) H) : rNiA K (.str (tx l)) (.ref p) H Q :=
  .inl ⟨p, _, rfl, hp, rfl, flat_strs ys, by rw [inV_strs]; exact q⟩
theorem q_add_int {i j : Int} (q : Q (.int (i + j)) H) : rAddA K (.int i) (.int j) H Q := .inl ⟨i, j, rfl, rfl, q⟩
theorem q_add_tx {a b : List Nat} (hz : a.length + b.length ≤ 1000000) (q : Q (.str (tx (a ++ b))) H) : rAddA K (.str (tx a)) (.str (tx b)) H Q :=
  .inr (.inl ⟨tx a, tx b, rfl, rfl, by rw [len_tx, len_tx]; exact Nat.le_trans hz (by decide), by rw [tx_app]; exact q⟩)
theorem q_add_lst {a b : Addr} {xs ys : List V} (ha : H a = some (.lst xs)) (hb : H b = some (.lst ys)) (hz : xs.length + ys.length ≤ 10000000) (q : ∀ p, H p = none → Q (.ref p) (upd H p (.lst (xs ++ ys)))) : rAddA K (.ref a) (.ref b) H Q :=
  .inr (.inr (.inl ⟨a, b, xs, ys, rfl, rfl, ha, hb, Nat.le_trans hz (by decide), q⟩))
theorem dec_tx {a b : List Nat} : decide (V.str (tx a) = V.str (tx b)) = decide (a = b) := by
  by_cases h : a = b
  · subst h; simp
  · rw [decide_eq_false h, decide_eq_false (fun e => h (tx_inj (V.str.inj e)))]
theorem q_eq_tx {a b : List Nat} (q : Q (.bl (decide (a = b))) H) : rEqA K (.str (tx a)) (.str (tx b)) H Q := .inl ⟨rfl, by rw [dec_tx]; exact q⟩
theorem q_ne_tx {a b : List Nat} (q : Q (.bl (!decide (a = b))) H) : rNeA K (.str (tx a)) (.str (tx b)) H Q := .inl ⟨rfl, by rw [dec_tx]; exact q⟩
theorem q_eq_int {i j : Int} (q : Q (.bl (decide (i = j))) H) : rEqA K (.int i) (.int j) H Q := .inl ⟨rfl, by
  have e : decide (V.int i = V.int j) = decide (i = j) := by by_cases h : i = j <;> simp [h]
  rw [e]; exact q⟩
theorem q_ne_int {i j : Int} (q : Q (.bl (!decide (i = j))) H) : rNeA K (.int i) (.int j) H Q := .inl ⟨rfl, by
  have e : decide (V.int i = V.int j) = decide (i = j) := by by_cases h : i = j <;> simp [h]
  rw [e]; exact q⟩
theorem q_eq_dat {x y : V} {d e : PyData} (hx : Dp K H x d) (hy : Dp K H y e) (sd : SeqAt.shaped d = true) (se : SeqAt.shaped e = true) (q : Q (.bl (PyData.eqv d e)) H) : rEqA K x y H Q := .inr ⟨d, e, hx, hy, sd, se, q⟩
theorem q_ne_dat {x y : V} {d e : PyData} (hx : Dp K H x d) (hy : Dp K H y e) (sd : SeqAt.shaped d = true) (se : SeqAt.shaped e = true) (q : Q (.bl (!PyData.eqv d e)) H) : rNeA K x y H Q := .inr ⟨d, e, hx, hy, sd, se, q⟩
theorem q_len_tx {l : List Nat} (hz : l.length ≤ 100000) (q : Q (.int (l.length : Int)) H) : rLenA K [.str (tx l)] H Q := ⟨_, l.length, rfl, ⟨by rw [len_tx]; exact Nat.le_trans hz (by decide), (len_tx l).symm⟩, q⟩
theorem q_len_lst {p : Addr} {xs : List V} (hp : SqL K H p xs) (q : Q (.int (xs.length : Int)) H) : rLenA K [.ref p] H Q := ⟨_, xs.length, rfl, .inl ⟨xs, hp, rfl⟩, q⟩
theorem q_len_tup {p : Addr} {xs : List V} (hp : SqT K H p xs) (q : Q (.int (xs.length : Int)) H) : rLenA K [.ref p] H Q := ⟨_, xs.length, rfl, .inr ⟨xs, hp, rfl⟩, q⟩
theorem cut_tx (l : List Nat) (i j : Nat) : cutS (tx l) (some (i : Int)) (some (j : Int)) = tx ((l.drop i).take (j - i)) := by
  unfold cutS
  rw [HT.sIx_nat, HT.sIx_nat, len_tx]
  show tx ((l.drop (min i l.length)).take (min j l.length - min i l.length)) = _
  congr 1
  by_cases hi : i ≤ l.length
  · rw [Nat.min_eq_left hi]
    by_cases hj : j ≤ l.length
    · rw [Nat.min_eq_left hj]
    · rw [Nat.min_eq_right (by omega), List.take_of_length_le (by rw [List.length_drop]; omega), List.take_of_length_le (by rw [List.length_drop]; omega)]
  · rw [Nat.min_eq_right (a := i) (by omega), List.drop_eq_nil_of_le (Nat.le_refl _), List.drop_eq_nil_of_le (as := l) (i := i) (by omega)]
    simp
theorem q_cut_tx {l : List Nat} {i j : Nat} (hz : l.length ≤ 100000) (q : Q (.str (tx ((l.drop i).take (j - i)))) H) : rSlA3 K (.str (tx l)) (some (i : Int)) (some (j : Int)) H Q :=
  .inr (.inl ⟨tx l, rfl, by rw [len_tx]; exact Nat.le_trans hz (by decide), by rw [cut_tx]; exact q⟩)
/-- isinstance of a plain value, of a list, of a tuple -/
theorem q_isi {x : V} {t T : String} {b : Bool} (ty : TyOf K H x (.type t)) (h : kitB t T = some b) (q : Q (.bl b) H) : rIsi K [x, .ty T] H Q := ⟨x, .ty T, .type t, .type T, b, rfl, .ty T, .base ty, kit_ty h, q⟩
theorem q_isi_str {l : Str} (q : Q (.bl true) H) : rIsi K [.str l, .ty "str"] H Q := q_isi (.str l) (b := true) (by decide +kernel) q
theorem q_isi_no {x : V} {t T : String} (ty : TyOf K H x (.type t)) (h : kitB t T = some false) (q : Q (.bl false) H) : rIsi K [x, .ty T] H Q := q_isi ty h q
theorem q_isi_yes {x : V} {t T : String} (ty : TyOf K H x (.type t)) (h : kitB t T = some true) (q : Q (.bl true) H) : rIsi K [x, .ty T] H Q := q_isi ty h q
end

/-! ### written texts, constants of the top -/
theorem lit_eq (s : String) : Str.ofString s = tx (cs s) := ext_tl (tl_ofString s)
section
variable {X : Cx} {x : Str} {v : V} {pos : Pos} {j : Nat}
theorem pe_lit (s : String) : PE X (.Constant (.str (Str.ofString s)) j pos) (tC (.str (tx (cs s)))) := by
  rw [← lit_eq]
  exact pe_str
theorem pe_const (h : ∃ u, X.mg x = some u ∧ RelV v u) (hg : Gl X x) (hd : (x == ("__debug__" : Str)) = false := by decide) : PE X (.Name x pos) (tC v) :=
  let ⟨_, h1, h2⟩ := h
  pe_glob hg h1 h2 hd
theorem rel_lit {s : String} {t : Tok} : RelV (.str (tx (cs s))) (.str (Str.ofString s) t) := ⟨t, by rw [lit_eq]⟩
end
end Ak

set_option maxHeartbeats 4000000
/-! AkStep: the readings, a step at a time. -/
namespace Ak
open PySem PySem.Spec PyProof.Rows L2 TL
section
variable {K : PySem.W.Frag} {σ : L2.St} {H : Hp} {Q : VK} {QT : Bool → Hp → Prop} {QA : List V → Hp → Prop} {D : Ends} {ta tb tc te to ti : TE} {c u' : TT} {t u : TS} {a : TA} {r r' : R2} {i j n : Nat} {v x y : V} {g : TG} {gs : TGs}
theorem r_var (h : σ[i]? = some (some v)) (q : Q v H) : tVar i σ H Q := ⟨v, h, q⟩
theorem r_c (q : Q v H) : tC v σ H Q := q
theorem r_op (q : ta σ H fun x H1 => tb σ H1 fun y H2 => r x y H2 Q) : tOp r ta tb σ H Q := q
theorem r_un {r : V → Hp → VK → Prop} (q : ta σ H fun x H1 => r x H1 Q) : tUn r ta σ H Q := q
theorem r_cb {r : List V → Hp → VK → Prop} (q : a σ H fun vs H1 => r vs H1 Q) : tCB r a σ H Q := q
theorem r_cons (q : ta σ H fun x H1 => a σ H1 fun xs H2 => QA (x :: xs) H2) : tCons ta a σ H QA := q
theorem r_nil (q : QA [] H) : tNil σ H QA := q
theorem r_tB (q : te σ H fun x H1 => ∃ c, x = .bl c ∧ QT c H1) : tB te σ H QT := q
theorem r_test (q : te σ H fun x H1 => ∃ c, x = .bl c ∧ QT c H1) : tTest te σ H QT := q
theorem r_bl {b : Bool} {R : Bool → Prop} (q : R b) : ∃ c, V.bl b = .bl c ∧ R c := ⟨b, rfl, q⟩
theorem r_not (q : c σ H fun b H1 => QT (!b) H1) : tNot c σ H QT := q
theorem r_and (q : c σ H fun b H1 => if b = true then u' σ H1 QT else QT false H1) : tAnd c u' σ H QT := q
theorem r_or (q : c σ H fun b H1 => if b = true then QT true H1 else u' σ H1 QT) : tOr c u' σ H QT := q
theorem r_andV (q : ta σ H fun x H1 => ∃ c, x = .bl c ∧ if c = true then tb σ H1 Q else Q (.bl false) H1) : tAndV ta tb σ H Q := q
theorem r_orV (q : ta σ H fun x H1 => ∃ c, x = .bl c ∧ if c = true then Q (.bl true) H1 else tb σ H1 Q) : tOrV ta tb σ H Q := q
theorem r_notV (q : ta σ H fun x H1 => ∃ c, x = .bl c ∧ Q (.bl (!c)) H1) : tNotV ta σ H Q := q
theorem r_if (q : c σ H fun b H1 => if b = true then ta σ H1 Q else tb σ H1 Q) : tIf c ta tb σ H Q := q
theorem r_chain (q : ta σ H fun x H1 => tb σ H1 fun y H2 => r x y H2 fun z H3 => ∃ k, z = .bl k ∧ (if k = true then tc σ H3 fun w' H4 => r' y w' H4 Q else Q (.bl false) H3)) : tChain r r' ta tb tc σ H Q := q
theorem r_isN (q : ta σ H fun x H1 => Q (.bl (decide (x = .non))) H1) : tIsN ta σ H Q := q
theorem r_notN (q : ta σ H fun x H1 => Q (.bl (!decide (x = .non))) H1) : tNotN ta σ H Q := q
theorem r_seq (q : t { D with nx := u D } σ H) : tSeq t u D σ H := q
theorem r_next (q : D.nx σ H) : tNext D σ H := q
theorem r_brk (q : D.bk σ H) : tBreak D σ H := q
theorem r_cont (q : D.ct σ H) : tCont D σ H := q
theorem r_ifS (q : c σ H fun b H1 => if b = true then t D σ H1 else u D σ H1) : tIfS c t u D σ H := q
theorem r_ret (q : te σ H D.rt) : tRet te D σ H := q
theorem r_drop (q : te σ H fun _ H1 => D.nx σ H1) : tDrop te D σ H := q
theorem r_asg (q : te σ H fun x H1 => g x σ H1 D.nx) : tAsg te g D σ H := q
theorem r_name {R : L2.St → Hp → Prop} (q : R (σ.set i (some v)) H) : gName i v σ H R := q
theorem r_tup (q : a σ H fun xs H1 => xs.length ≤ sizeLine ∧ ∀ p, H1 p = none → Q (.ref p) (upd H1 p (.tup xs))) : tTup a σ H Q := q
theorem r_lst (q : a σ H fun xs H1 => xs.length ≤ sizeLine ∧ ∀ p, H1 p = none → Q (.ref p) (upd H1 p (.lst xs))) : tLst a σ H Q := q
theorem r_sl {r : V → Option Int → Option Int → Hp → VK → Prop} {tl th : TO} (q : te σ H fun x H1 => tl σ H1 fun l H2 => th σ H2 fun u H3 => r x l u H3 Q) : L2.tSl r te tl th σ H Q := q
theorem r_part {R : Option Int → Hp → Prop} (q : te σ H fun x H1 => ∃ i, x = .int i ∧ R (some i) H1) : tPart te σ H R := q
theorem r_nopart {R : Option Int → Hp → Prop} (q : R none H) : tNoPart σ H R := q
theorem r_int {z : Int} {R : Int → Prop} (q : R z) : ∃ i, V.int z = .int i ∧ R i := ⟨z, rfl, q⟩
theorem r_call {sp : Sp} {dvs : List V} {E : XK} (q : a σ H fun vs H1 => sp (vs ++ dvs) H1 Q E) : tCall sp dvs E a σ H Q := q
theorem r_callK {sp : Sp} {gV : List V → List V → List V} {E : XK} {tk : TA} (q : a σ H fun vs H1 => tk σ H1 fun zs H2 => sp (gV vs zs) H2 Q E) : L2.tCallK sp gV E a tk σ H Q := q
theorem r_bm {T : String} {r : V → List V → Hp → VK → Prop} (q : to σ H fun x H1 => tyV K T x H1 ∧ a σ H1 fun xs H2 => r x xs H2 Q) : tBM K T r to a σ H Q := q
theorem r_bm0 {T : String} {r : V → List V → Hp → VK → Prop} (q : to σ H fun x H1 => tyV K T x H1 ∧ r x [] H1 Q) : tBM0 K T r to σ H Q := q
theorem r_m1 {r : V → List V → Hp → VK → Prop} (q : to σ H fun x H1 => (∃ a, x = .str a) ∧ te σ H1 fun y H2 => r x [y] H2 Q) : tM1 r to te σ H Q := q
theorem r_m0 {r : V → List V → Hp → VK → Prop} (q : to σ H fun x H1 => (∃ a, x = .str a) ∧ r x [] H1 Q) : tM0 r to σ H Q := q
theorem r_par (q : a σ H fun vs H1 => ∃ v w, vs = [v, w] ∧ D.nx ((σ.set i (some v)).set j (some w)) H1) : tPar i j a D σ H := q
theorem r_two {R : V → V → Prop} (q : R x y) : ∃ v w, [x, y] = [v, w] ∧ R v w := ⟨x, y, rfl, q⟩
theorem r_aug {ti : TIp} (h : σ[i]? = some (some x)) (q : te σ H fun y H1 => ti x y H1 fun z H2 => D.nx (σ.set i (some z)) H2) : tAug i te ti D σ H := ⟨x, h, q⟩
theorem r_gtup {R : L2.St → Hp → Prop} {p : Addr} {xs : List V} (h : SqT K H p xs) (hn : xs.length = n) (q : gs xs σ H R) : gTup K n gs (.ref p) σ H R := ⟨p, xs, rfl, h, hn, q⟩
theorem r_gcons {R : L2.St → Hp → Prop} {vs : List V} (q : g v σ H fun σ' H' => gs vs σ' H' R) : gCons g gs (v :: vs) σ H R := ⟨v, vs, rfl, q⟩
theorem r_gnil {R : L2.St → Hp → Prop} (q : R σ H) : gNil [] σ H R := ⟨rfl, q⟩
theorem r_gsub {R : L2.St → Hp → Prop} {s : TSet} (q : to σ H fun o H1 => ti σ H1 fun i H2 => s o i v H2 fun H3 => R σ H3) : gSub to ti s v σ H R := q
theorem r_ilist {R : It → Hp → Prop} (q : te σ H fun x H1 => ∃ a, x = .ref a ∧ (∃ xs, SqL K H1 a xs) ∧ R (Itl K a) H1) : iList K te σ H R := q
theorem r_itup {R : It → Hp → Prop} (q : te σ H fun x H1 => ∃ a, x = .ref a ∧ (∃ xs, SqT K H1 a xs) ∧ R (Itt K a) H1) : iTup K te σ H R := q
theorem r_istr {R : It → Hp → Prop} (q : te σ H fun v H1 => ∃ x, v = .str x ∧ R (Its x) H1) : iStr te σ H R := q
theorem r_irng1 {R : It → Hp → Prop} (q : a σ H fun vs H1 => ∃ j : Int, vs = [.int j] ∧ -(2 ^ 62) ≤ j ∧ j < 2 ^ 62 ∧ R (Itr 0 j.toNat) H1) : iRng1 a σ H R := q
theorem r_ienum {R : It → Hp → Prop} (q : a σ H fun vs H1 => ∃ p xs, vs = [.ref p] ∧ SqL K H1 p xs ∧ R (Ite K p) H1) : iEnum K a σ H R := q
theorem r_str {z : Str} {R : Str → Prop} (q : R z) : ∃ x, V.str z = .str x ∧ R x := ⟨z, rfl, q⟩
theorem r_yes (q : QT true H) : tYes σ H QT := q
theorem r_two1 {p : Prop} {z : Str} (q : p) : (∃ a, V.str z = .str a) ∧ p := ⟨⟨z, rfl⟩, q⟩
theorem q_i0 {f : Int → Int → V} {i j : Int} (q : Q (f i j) H) : rI0 f (.int i) (.int j) H Q := ⟨i, j, rfl, rfl, q⟩
theorem q_ipI {f : Int → Int → Int} {i j : Int} (q : Q (.int (f i j)) H) : ipI f (.int i) (.int j) H Q := ⟨i, j, rfl, rfl, q⟩
theorem small_n {n : Nat} (h : n ≤ 100) : n ≤ sizeLine := Nat.le_trans h (by decide)
theorem b_t {A B : Prop} (a : A) : if true = true then A else B := by rw [if_pos rfl]; exact a
theorem b_f {A B : Prop} (b : B) : if false = true then A else B := by rw [if_neg Bool.false_ne_true]; exact b
theorem b_nt {A B : Prop} (b : B) : if (!true) = true then A else B := by rw [if_neg (by decide)]; exact b
theorem b_nf {A B : Prop} (a : A) : if (!false) = true then A else B := by rw [if_pos (by decide)]; exact a
theorem bd {p : Prop} [Decidable p] {A B : Prop} (ht : p → A) (hf : ¬ p → B) : if decide p = true then A else B := biff (fun h => ht (of_decide_eq_true h)) (fun h => hf (of_decide_eq_false h))
theorem bnd {p : Prop} [Decidable p] {A B : Prop} (ht : ¬ p → A) (hf : p → B) : if (!decide p) = true then A else B := biff (fun h => ht (by simpa using h)) (fun h => hf (by simpa using h))
theorem bd_t {p : Prop} [Decidable p] {A B : Prop} (h : p) (a : A) : if decide p = true then A else B := by rw [decide_eq_true h, if_pos rfl]; exact a
theorem bd_f {p : Prop} [Decidable p] {A B : Prop} (h : ¬ p) (b : B) : if decide p = true then A else B := by rw [decide_eq_false h, if_neg Bool.false_ne_true]; exact b
theorem bnd_t {p : Prop} [Decidable p] {A B : Prop} (h : ¬ p) (a : A) : if (!decide p) = true then A else B := by rw [decide_eq_false h]; exact b_nf a
theorem bnd_f {p : Prop} [Decidable p] {A B : Prop} (h : p) (b : B) : if (!decide p) = true then A else B := by rw [decide_eq_true h]; exact b_nt b
theorem r_lc {wi : TI} {tt : TT} {vs : List Nat} (q : wi σ H fun J H1 => ∀ D, H1 D = none → ∃ W : Nat → Nat → Hp → Prop, (∃ m, W 0 m (upd H1 D (.lst []))) ∧ ∀ i m H, W i m H →
  (J.stop i H ∧ Q (.ref D) H) ∨ (J.go i H ∧ ∃ Nx : Hp → Prop, (∀ H', Nx H' → ∃ m', m' < m ∧ W (i + 1) m' H') ∧ ∀ x H', J.yld i H x H' → g x (wipe σ vs) H' fun σ2 H2 => wipe σ2 vs = wipe σ vs ∧ tt σ2 H2 fun b H3 =>
    if b = true then te σ2 H3 fun y H4 => ∃ acc, H4 D = some (.lst acc) ∧ acc.length < sizeLine ∧ Nx (upd H4 D (.lst (acc ++ [y]))) else Nx H3)) : tLc wi g tt te vs σ H Q := q
theorem filt_all {α : Type} (l : List α) : (l.filter fun _ => true) = l := List.filter_eq_self.mpr (by simp)
theorem q_u {f : Int → V} {i : Int} (q : Q (f i) H) : rU f (.int i) H Q := ⟨i, rfl, q⟩
theorem map_at {α β : Type} {f : α → β} {l : List α} {i : Nat} {y : β} (h : (l.map f)[i]? = some y) : ∃ x, l[i]? = some x ∧ y = f x := by
  rw [List.getElem?_map] at h
  cases e : l[i]? with
  | none => rw [e] at h; cases h
  | some x => rw [e] at h; exact ⟨x, rfl, (Option.some.inj h).symm⟩
theorem r_mko {C : Addr} {sp : Sp} {dvs : List V} {QX : XK} (q : a σ H fun vs H1 => vs.length ≤ 1000 ∧ ∀ b, H1 b = none → sp (.ref b :: (vs ++ dvs)) (upd H1 b (exo b C none))
  (fun v H2 => v = .non ∧ ∃ (d : Addr) (fs : List (Str × V)), H2 b = some (exo b C (some d)) ∧ H2 d = some (exd d fs) ∧ H1 d = none ∧ QX (.ref C) (some d) (upd (del H2 b) d (.xd fs))) (fun _ _ _ => False)) : tMkO C sp dvs a σ H QX := q
theorem cut_last (xs : List V) : cutV xs none (some (-1)) = xs.dropLast := by
  unfold cutV
  have e : HT.sIx xs.length xs.length (some (-1)) = xs.length - 1 := by
    show (if (-1 : Int) < 0 then ((-1 : Int) + (xs.length : Int)).toNat else min (-1 : Int).toNat xs.length) = xs.length - 1
    rw [if_pos (by decide)]
    omega
  rw [HT.sIx_none, e, List.drop_zero, Nat.sub_zero, List.dropLast_eq_take]
theorem q_cutlast {p : Addr} {xs : List V} (hp : SqL K H p xs) (q : ∀ b, H b = none → Q (.ref b) (upd H b (.lst xs.dropLast))) : rSlA3 K (.ref p) none (some (-1)) H Q := .inl ⟨p, xs, rfl, hp, fun b hb => by rw [cut_last]; exact q b hb⟩
theorem q_rI {C : Int → Int → Prop} {f : Int → Int → V} {i j : Int} (hc : C i j) (q : Q (f i j) H) : rI C f (.int i) (.int j) H Q := ⟨i, j, rfl, rfl, hc, q⟩
theorem q_mulI {i j : Int} (h1 : -(2 ^ 64) < i) (h2 : i < 2 ^ 64) (q : Q (.int (i * j)) H) : rMulA (.int i) (.int j) H Q := .inl ⟨i, j, rfl, rfl, .inl ⟨h1, h2⟩, q⟩
theorem r_new {P : Addr → Prop} {n : Nat} (h : n ≤ 100) (q : ∀ p, P p) : n ≤ sizeLine ∧ ∀ p, P p := ⟨small_n h, q⟩

/-! ### loops -/
def Turn (Pv : L2.St → Hp → Prop) (μ : L2.St → Hp → Nat) (m : Nat) (tb : TS) (D : Ends) (σ : L2.St) (H1 : Hp) : Prop :=
  ∃ N : L2.St → Hp → Prop, (∀ σ' H', N σ' H' → ∃ m', m' < m ∧ (m' = μ σ' H' ∧ Pv σ' H')) ∧ tb { D with nx := N, ct := N, bk := D.nx } σ H1
theorem turn_i {Pv : L2.St → Hp → Prop} {μ : L2.St → Hp → Nat} {m : Nat} (q : t { D with nx := fun σ' H' => Pv σ' H' ∧ μ σ' H' < m, ct := fun σ' H' => Pv σ' H' ∧ μ σ' H' < m, bk := D.nx } σ H) : Turn Pv μ m t D σ H :=
  ⟨_, fun σ' H' ⟨p, l⟩ => ⟨_, l, rfl, p⟩, q⟩
theorem r_while (Pv : L2.St → Hp → Prop) (μ : L2.St → Hp → Nat) (h0 : Pv σ H) (hs : ∀ σ H, Pv σ H → c σ H fun b H1 => if b = true then Turn Pv μ (μ σ H) t D σ H1 else D.nx σ H1) : tWhile c t D σ H :=
  ⟨fun m σ H => m = μ σ H ∧ Pv σ H, ⟨_, rfl, h0⟩, fun m σ H ⟨e, p⟩ => by subst e; exact hs σ H p⟩
theorem r_for {wi : TI} (q : wi σ H fun J H1 => ∃ W : Nat → Nat → L2.St → Hp → Prop, (∃ m, W 0 m σ H1) ∧ ∀ i m σ H, W i m σ H →
  (J.stop i H ∧ D.nx σ H) ∨ (J.go i H ∧ ∃ N : L2.St → Hp → Prop, (∀ σ' H', N σ' H' → ∃ m', m' < m ∧ W (i + 1) m' σ' H') ∧ ∀ x H', J.yld i H x H' → g x σ H' fun σ2 H2 => t { D with nx := N, ct := N, bk := D.nx } σ2 H2)) : tFor wi g t D σ H := q
end
/-! ### data that no list's change touches -/
mutual
def flatD : PyData → Bool
  | .list _ => false
  | .dict _ => false
  | .tuple xs => flatDs xs
  | _ => true
def flatDs : List PyData → Bool
  | [] => true
  | x :: xs => flatD x && flatDs xs
end
/-- all but lists that may change is kept -/
def KeepT (H H' : Hp) : Prop := ∀ b o, H b = some o → (∀ xs, o ≠ .lst xs) → H' b = some o
theorem KeepT.refl (H : Hp) : KeepT H H := fun _ _ h _ => h
theorem KeepT.trans {H H1 H2 : Hp} (a : KeepT H H1) (b : KeepT H1 H2) : KeepT H H2 := fun c o h n => b c o (a c o h n) n
theorem KeepT.of {H H' : Hp} (s : Same H H') : KeepT H H' := fun b o h _ => s b o h
theorem KeepT.upd {H : Hp} {f : Addr} {xs : List V} {o : HO} (h : H f = some (.lst xs)) : KeepT H (upd H f o) := fun b u e n => by
  have nb : b ≠ f := fun z => by
    subst z
    rw [h] at e
    exact n xs (Option.some.inj e).symm
  rw [upd_ne nb]
  exact e
theorem KeepT.new {H : Hp} {f : Addr} {o : HO} (h : H f = none) : KeepT H (L2.upd H f o) := .of (same_new h)
theorem KeepT.seqT {K : PySem.W.Frag} {H H' : Hp} {a : Addr} {xs : List V} (k : KeepT H H') (h : SqT K H a xs) : SqT K H' a xs := by
  rcases h with (h | ⟨o, h⟩) | h
  · exact .inl (.inl (k _ _ h fun ys z => by cases z))
  · exact .inl (.inr ⟨o, k _ _ h fun ys z => by cases z⟩)
  · exact .inr h
mutual
theorem Dp.keep {K : PySem.W.Frag} {H H' : Hp} (k : KeepT H H') : ∀ {v : V} {d : PyData}, Dp K H v d → flatD d = true → Dp K H' v d
  | _, _, .non, _ => .non
  | _, _, .bl b, _ => .bl b
  | _, _, .int i, _ => .int i
  | _, _, .str x, _ => .str x
  | _, _, .lst h1 h2, f => by simp [flatD] at f
  | _, _, .tup h1 h2, f => .tup (k.seqT h1) (DpAll.keep k h2 (by simpa [flatD] using f))
theorem DpAll.keep {K : PySem.W.Frag} {H H' : Hp} (k : KeepT H H') : ∀ {vs : List V} {ds : List PyData}, DpAll K H vs ds → flatDs ds = true → DpAll K H' vs ds
  | _, _, .nil, _ => .nil
  | _, _, .cons a r, f => by
    simp only [flatDs, Bool.and_eq_true] at f
    exact .cons (Dp.keep k a f.1) (DpAll.keep k r f.2)
end
/-- a list of data, flat ones -/
def LstD (K : PySem.W.Frag) (H : Hp) (a : Addr) (ds : List PyData) : Prop := ∃ vs, H a = some (.lst vs) ∧ DpAll K H vs ds
theorem LstD.len {K : PySem.W.Frag} {H : Hp} {a : Addr} {ds : List PyData} {vs : List V} (h : H a = some (.lst vs)) (d : LstD K H a ds) : vs.length = ds.length := by
  obtain ⟨ws, e, r⟩ := d
  rw [h] at e
  cases e
  exact DpAll.length r
theorem LstD.dp {K : PySem.W.Frag} {H : Hp} {a : Addr} {ds : List PyData} (d : LstD K H a ds) : Dp K H (.ref a) (.list ds) := by
  obtain ⟨ws, e, r⟩ := d
  exact .lst (SqL.of e) r
theorem LstD.same {K : PySem.W.Frag} {H H' : Hp} {a : Addr} {ds : List PyData} (s : Same H H') (d : LstD K H a ds) : LstD K H' a ds := by
  obtain ⟨ws, e, r⟩ := d
  exact ⟨ws, s _ _ e, DpAll.same s r⟩
/-- one more behind -/
theorem LstD.more {K : PySem.W.Frag} {H : Hp} {a : Addr} {ds : List PyData} {vs : List V} {v : V} {d : PyData} (h : H a = some (.lst vs)) (r : LstD K H a ds) (hv : Dp K H v d) (f : flatDs (ds ++ [d]) = true) : LstD K (upd H a (.lst (vs ++ [v]))) a (ds ++ [d]) := by
  obtain ⟨ws, e, r⟩ := r
  rw [h] at e
  cases e
  exact ⟨_, upd_same, DpAll.keep (.upd h) (DpAll.app r (.cons hv .nil)) f⟩
theorem flatDs_app : ∀ (a b : List PyData), flatDs (a ++ b) = (flatDs a && flatDs b)
  | [], b => by simp [flatDs]
  | x :: a, b => by
    show (flatD x && flatDs (a ++ b)) = (flatD x && flatDs a && flatDs b)
    rw [flatDs_app a b, Bool.and_assoc]
theorem LstD.extend {K : PySem.W.Frag} {H : Hp} {a b : Addr} {ds es : List PyData} {vs ws : List V} (h : H a = some (.lst vs)) (hb : H b = some (.lst ws)) (r : LstD K H a ds) (r' : LstD K H b es) (f : flatDs (ds ++ es) = true) : LstD K (upd H a (.lst (vs ++ ws))) a (ds ++ es) := by
  obtain ⟨xs, e, r⟩ := r
  rw [h] at e
  cases e
  obtain ⟨ys, e, r'⟩ := r'
  rw [hb] at e
  cases e
  exact ⟨_, upd_same, DpAll.keep (.upd h) (DpAll.app r r') f⟩
end Ak

set_option maxHeartbeats 4000000
/-! AkMore: comprehensions that lay new data; lists of data joined; texts joined. -/
namespace Ak
open PySem PySem.Spec PyProof.Rows L2 TL
theorem DpAll.mem {K : PySem.W.Frag} {H : Hp} : ∀ {vs : List V} {ds : List PyData} {v : V}, DpAll K H vs ds → v ∈ vs → ∃ d ∈ ds, Dp K H v d
  | _, _, _, .nil, h => by simp at h
  | _, _, _, .cons a r, h => by
    rcases List.mem_cons.mp h with rfl | h
    · exact ⟨_, List.mem_cons_self, a⟩
    · obtain ⟨d, hd, q⟩ := DpAll.mem r h
      exact ⟨d, List.mem_cons_of_mem _ hd, q⟩
section
variable {K : PySem.W.Frag} {g : TG} {tt : TT} {te : TE} {σ : L2.St} {H1 : Hp} {i : Nat}
/-- over a list or a tuple; each turn lays new data (no list) -/
theorem lc_dat {J : It} {G : Hp → Prop} {xs : List V} {D : Addr} {Qd : Hp → Prop} (w : Walk J xs.length G (YAt xs)) (f : V → PyData) (hz : xs.length < sizeLine) (hG : ∀ H, Same H1 H → G H) (hfl : flatDs (xs.map f) = true)
    (ht : ∀ x ∈ xs, ∀ (H : Hp) (Q : Bool → Hp → Prop), Same H1 H → Q true H → tt ((wipe σ [i]).set i (some x)) H Q)
    (he : ∀ x ∈ xs, ∀ (H : Hp) (Q : VK), Same H1 H → (∀ H' v, Same H H' → Dp K H' v (f x) → Q v H') → te ((wipe σ [i]).set i (some x)) H Q)
    (hD : H1 D = none) (hd : ∀ H', Same H1 H' → LstD K H' D (xs.map f) → Qd H') :
    ∃ W : Nat → Nat → Hp → Prop, (∃ m, W 0 m (upd H1 D (.lst []))) ∧ ∀ j m H, W j m H →
      (J.stop j H ∧ Qd H) ∨ (J.go j H ∧ ∃ Nx : Hp → Prop, (∀ H', Nx H' → ∃ m', m' < m ∧ W (j + 1) m' H') ∧ ∀ x H', J.yld j H x H' → gName i x (wipe σ [i]) H' fun σ2 H2 => wipe σ2 [i] = wipe σ [i] ∧ tt σ2 H2 fun b H3 =>
        if b = true then te σ2 H3 fun y H4 => ∃ acc, H4 D = some (.lst acc) ∧ acc.length < sizeLine ∧ Nx (upd H4 D (.lst (acc ++ [y]))) else Nx H3) := by
  refine lc_it (g := gName i) w (fun j H => Same H1 H ∧ LstD K H D ((xs.take j).map f)) ⟨same_new hD, [], upd_same, .nil⟩ (fun j H _ e => hG _ e.1) ?_ ?_
  · rintro j x H H' hj ⟨s1, hL⟩ ⟨rfl, hc'⟩
    have hm : x ∈ xs := List.mem_of_getElem? hc'
    have et : xs.take (j + 1) = xs.take j ++ [x] := by
      rw [List.take_add_one, hc']
      rfl
    refine ⟨wipe_one σ i _, ht x hm _ _ s1 ?_⟩
    rw [if_pos rfl]
    refine he x hm _ _ s1 (fun H2 v s2 hv => ?_)
    obtain ⟨vs, hvs, hD2⟩ := hL.same s2
    have hl := DpAll.length hD2
    rw [List.length_map] at hl
    refine ⟨vs, hvs, ?_, ?_, ?_⟩
    · rw [hl, List.length_take]
      omega
    · intro b o e
      rw [upd_ne (ne_of_none e hD)]
      exact s2 _ _ (s1 _ _ e)
    · have e2 : (xs.take (j + 1)).map f = (xs.take j).map f ++ [f x] := by rw [et, List.map_append]; rfl
      rw [e2]
      refine LstD.more hvs ⟨vs, hvs, hD2⟩ hv ?_
      rw [← e2]
      have := flatDs_app ((xs.take (j + 1)).map f) ((xs.drop (j + 1)).map f)
      rw [← List.map_append, List.take_append_drop, hfl] at this
      exact (Bool.and_eq_true _ _ ▸ this.symm).1
  · rintro H ⟨s1, hL⟩
    rw [List.take_length] at hL
    exact hd H s1 hL
end
/-- two lists of data: a + b -/
theorem q_add_d {K : PySem.W.Frag} {H : Hp} {Q : VK} {a b : Addr} {ds es : List PyData} (ha : LstD K H a ds) (hb : LstD K H b es) (hz : ds.length + es.length ≤ 10000000) (q : ∀ p H', H p = none → Same H H' → LstD K H' p (ds ++ es) → Q (.ref p) H') : rAddA K (.ref a) (.ref b) H Q := by
  obtain ⟨vs, h1, r1⟩ := ha
  obtain ⟨ws, h2, r2⟩ := hb
  have l1 := DpAll.length r1
  have l2 := DpAll.length r2
  exact q_add_lst h1 h2 (by omega) fun p hp => q p _ hp (same_new hp) ⟨_, upd_same, DpAll.same (same_new hp) (DpAll.app r1 r2)⟩
theorem txs_of {A : List Nat → Prop} : ∀ {vs : List V}, (∀ v ∈ vs, ∃ z, A z ∧ v = .str (tx z)) → ∃ zs : List (List Nat), vs = zs.map (fun z => V.str (tx z)) ∧ ∀ z ∈ zs, A z
  | [], _ => ⟨[], rfl, by simp⟩
  | v :: vs, h => by
    obtain ⟨z, hz, rfl⟩ := h v List.mem_cons_self
    obtain ⟨zs, rfl, h2⟩ := txs_of (vs := vs) fun x hx => h x (List.mem_cons_of_mem _ hx)
    exact ⟨z :: zs, rfl, fun y hy => by
      rcases List.mem_cons.mp hy with rfl | hy
      · exact hz
      · exact h2 y hy⟩
theorem join0 : ∀ zs : List (List Nat), Txt.join (tx []) (zs.map tx) = tx zs.flatten := by
  intro zs
  rw [join_eq]
  induction zs with
  | nil => rfl
  | cons z zs ih =>
    cases zs with
    | nil => simp [Str.join]
    | cons y r =>
      have e : Str.join (tx []) ((z :: y :: r).map tx) = tx z ++ tx [] ++ Str.join (tx []) ((y :: r).map tx) := rfl
      rw [e, ih, tx_app, tx_app]
      simp
def rJoinK (K : PySem.W.Frag) : V → List V → Hp → VK → Prop := fun x xs H Q => ∃ a p, ∃ ys : List Str, x = .str a ∧ xs = [.ref p] ∧ (SqL K H p (ys.map V.str) ∨ SqT K H p (ys.map V.str)) ∧ (ys.map (·.length)).sum + ys.length * a.length ≤ 16777216 ∧ Q (.str (Txt.join a ys)) H
/-- o.join(e), within a comprehension too -/
theorem pe_joinK {X : Cx} {K : PySem.W.Frag} {o e : Expr} {to te : TE} {apos pos : Pos} (hK : X.K = K) (ho : PE X o to) (he : PE X e te) (hs : starEach [e] X.env = [(false, eval e X.env)] := by rfl) (hbase : attributeBase o "join" X.env (eval o X.env) = eval o X.env := by rfl) (hline : (apos.endLine == pos.line) = true := by rfl) :
    PE X (.Call (.Attribute o "join" apos) [e] [] pos) (tM1 (rJoinK K) to te) := by
  subst hK
  exact pe_join ho he hs hbase hline
end Ak

set_option maxHeartbeats 4000000
/-! AkEnd: the head for a law whose def may call repr (Quiet). -/
namespace Ak
open PySem PySem.Spec PyProof.Rows L2
/-- the heap told of: the script, if the module does not hold it itself -/
theorem script_heap {P : Program} {w : World} {K : PySem.W.Frag} {h : Heap} {a : Addr} {vs : List Value} {ns : List Int} (KX : K.In h) (ha : h.get? a = some { cls := .type "list", data := .seq vs.toArray }) (hi : IntsAre vs ns) (hl : ns.length ≤ sizeLine) :
    ∃ H : Hp, SqL K H a (ns.map V.int) ∧ HOk P w H h ∧ ∀ b u, H b = some u → b = a ∧ K.lookup a = none ∧ u = .frz { cls := .type "list", data := .seq vs.toArray } (.lst (ns.map V.int)) := by
  have rv := vals_ints hi
  cases hk : K.lookup a with
  | none =>
    refine ⟨fun b => if b = a then some (.frz { cls := .type "list", data := .seq vs.toArray } (.lst (ns.map V.int))) else none, .inl (.inr ⟨_, if_pos rfl⟩), fun b u z => ?_, fun b u z => ?_⟩
    · by_cases hb : b = a
      · subst hb
        have z' := (if_pos rfl).symm.trans z
        cases z'
        exact ⟨ha, by rw [List.length_map]; exact hl, vs, _, rv, ha⟩
      · cases (if_neg hb).symm.trans z
    · by_cases hb : b = a
      · exact ⟨hb, rfl, (Option.some.inj ((if_pos hb).symm.trans z)).symm⟩
      · cases (if_neg hb).symm.trans z
  | some o =>
    have e := KX a o hk
    rw [ha] at e
    cases e
    exact ⟨fun _ => none, .inr ⟨_, vs.toArray, _, hk, rfl, rfl, rfl, by rw [List.size_toArray, hi.length]; exact hl, by simpa using rv⟩, (fun b u z => nomatch (show (none : Option HO) = some u from z)), (fun b u z => nomatch (show (none : Option HO) = some u from z))⟩
/-- the law's def, called by the judge -/
theorem quiet_ends {P : Program} {w : World} {K : PySem.W.Frag} {mg mb : Str → Option Value} {k : Nat} {fa a : Addr} {fd : FuncData} {x : Str} {sp : Sp} {s₁ : Shared} {vs : List Value} {ns : List Int}
    (KX : K.In s₁.heap) (hns : s₁.heap.Ns mainGlobals mg) (hb : s₁.heap.Ns builtinsNs mb) (hbb : ∀ x : Str, x ≠ "__name__" → mb x = bootBuiltins x) (hlim : s₁.heap.NoLimit) (hg : s₁.gens = #[])
    (ha : s₁.heap.get? a = some { cls := .type "list", data := .seq vs.toArray }) (hi : IntsAre vs ns) (hl : ns.length ≤ sizeLine) (hr : Room k callerA) (hq : callerA.guards = some [])
    (F : ∀ base : Heap, K.In base → base.Ns mainGlobals mg → Ak.Quiet P w K mg base CX0 k fa fd [x] sp) (hbind : ∀ (s : Shared) (u : Value), BindsTo s fd ⟨[u], []⟩ [(x, u)])
    (hsp : ∀ H : Hp, SqL K H a (ns.map V.int) → sp [.ref a] H (fun v _ => v = .bl true) fun _ _ _ => False) :
    codeAny (model P w) callerA (.call (.ref fa) ⟨[.ref a], []⟩) (fun r s' => r = .ok (.ret (.bool true)) ∧ OldK s₁.heap s'.heap ∧ s'.os = s₁.os ∧ AllBare s'.gens) s₁ := by
  obtain ⟨H, hS, hok, hH⟩ := script_heap (P := P) (w := w) KX ha hi hl
  have low : ∀ {b : Addr} {q : Obj}, s₁.heap.get? b = some q → (b = a → K.lookup a = none → False) → (hidT s₁.heap H).get? b = some q := fun {b q} e no => hidT_get e (by
    cases z : H b with
    | none => rfl
    | some u => exact (no (hH b u z).1 (hH b u z).2.1).elim)
  have lowN : ∀ {b : Addr} {m : Str → Option Value}, s₁.heap.Ns b m → (hidT s₁.heap H).Ns b m := by
    rintro b m ⟨q, es, ep, e, d, r⟩
    refine ⟨q, es, ep, low e fun z _ => ?_, d, r⟩
    subst z
    rw [ha] at e
    cases e
    cases d
  have lowK : K.In (hidT s₁.heap H) := fun b q e => low (KX b q e) fun z n => by
    subst z
    rw [n] at e
    cases e
  obtain ⟨mc, l1, l2⟩ := hlim
  have none0 : ∀ {b : Addr}, b ∉ frs ([] : List Env) := fun {b} z => by simp [frs] at z
  have e0 : Env0 P w K mg (hidT s₁.heap H) callerA [] s₁ H :=
    ⟨rfl, ⟨lowK, lowN hns, ⟨mb, lowN hb, hbb⟩, mc, lowN l1, l2⟩, fun b q e => of_hidT e, Nat.le_of_eq (hidT_size _ _), trivial, fun b z => (none0 z).elim, hok, .of_eq hg⟩
  have go := (F _ lowK (lowN hns)).goes callerA [] s₁ H ⟨[.ref a], []⟩ [.ref a] [.ref a] _ _ hq hr e0 (hbind s₁ (.ref a)) (.cons rfl .nil) (hsp H hS)
  refine codeAny_mono go fun r s' h => ?_
  match r, h with
  | .error _, h => exact h.elim
  | .ok .next, h => exact h.elim
  | .ok .brk, h => exact h.elim
  | .ok .cont, h => exact h.elim
  | .ok (.ret u), ⟨v, H', os, bare, un, hok', rv, q⟩ =>
    have q' : v = .bl true := q
    subst q'
    obtain rfl : u = Value.bool true := rv
    refine ⟨rfl, OldK.of_keep fun b o e => ?_, os, bare⟩
    cases z : H b with
    | none => exact un.keep b o e z none0 (by simp)
    | some u =>
      obtain ⟨_, _, rfl⟩ := hH b u z
      have e1 := (hok b _ z).1
      have e2 := (hok' b _ (un.frzs b _ _ z)).1
      rw [e] at e1
      cases e1
      exact e2
/-- what the head leaves, from a quiet law's promise -/
theorem walk_ofQ {l : PySem.W.OpenLaw} {n k : Nat} {q : Program} {loose : List Str} {XP : (Str → Option Value) → Heap → Prop} {YP : World → Heap → Prop} {d : DefRec} {K : Params → PySem.W.Frag} {sp : PySem.W.Frag → Sp} {x : Str}
    (hn : l.most = some n) (hn2 : n ≤ sizeLine) (hdf : d.params.defaults = []) (hr : Room k callerA) (hq : callerA.guards = some []) (hY : ∀ (w : World) (h : Heap), YP w h → (K w.params).In h)
    (F : ∀ (w : World) (mg : Str → Option Value) (fa : Addr) (h : Heap), (K w.params).In h → h.Ns mainGlobals mg → mg d.name = some (.ref fa) →
      ∃ fd : FuncData, (∀ (s : Shared) (u : Value), BindsTo s fd ⟨[u], []⟩ [(x, u)]) ∧ ∀ base : Heap, (K w.params).In base → base.Ns mainGlobals mg → Ak.Quiet l.prog w (K w.params) mg base CX0 k fa fd [x] (sp (K w.params)))
    (hsp : ∀ (K : PySem.W.Frag) (H : Hp) (a : Addr) (ns : List Int), ns.length ≤ n → (∀ z ∈ ns, Builtin.Int.intBits z ≤ 1048576) → SqL K H a (ns.map V.int) → sp K [.ref a] H (fun v _ => v = .bl true) fun _ _ _ => False) :
    PySem.W.WalkO q loose XP YP l.row.toRowW d [] (fun f vs => PySem.call f vs) := by
  refine Att.attach_callB hn hdf fun w s₀ s₁ mg mb fa o pm cd doc a vs ns G Y ho hd hcd hmg hobj hints hlen hbits hg => ?_
  obtain ⟨fd, hb, hF⟩ := F w mg fa _ (hY w _ Y) G.T.g hmg
  exact quiet_ends (hY w _ Y) G.T.g G.T.b G.T.builtins G.T.nolimit hg hobj hints (Nat.le_trans hlen hn2) hr hq hF hb fun H hS => hsp (K w.params) H a ns hlen hbits hS
end Ak

set_option maxHeartbeats 4000000
/-! AkData: values of any kind (None, bools, ints, texts, lists, tuples, the empty dict), known at their addresses. -/
namespace Ak
open PySem PySem.Spec PyProof.Rows L2 TL
/-- a tuple's entry, as laid, or with its one object known -/
def TupU (o : HO) (xs : List V) : Prop := o = .tup xs ∨ ∃ ob, o = .frz ob (.tup xs)
def Tq (H : Hp) (a : Addr) (xs : List V) : Prop := ∃ o, H a = some o ∧ TupU o xs
theorem Tq.of {H : Hp} {a : Addr} {xs : List V} (h : H a = some (.tup xs)) : Tq H a xs := ⟨_, h, .inl rfl⟩
theorem Tq.frz {H : Hp} {a : Addr} {xs : List V} {ob : Obj} (h : H a = some (.frz ob (.tup xs))) : Tq H a xs := ⟨_, h, .inr ⟨ob, rfl⟩⟩
theorem Tq.sq {K : PySem.W.Frag} {H : Hp} {a : Addr} {xs : List V} (h : Tq H a xs) : SqT K H a xs := by
  obtain ⟨o, e, rfl | ⟨ob, rfl⟩⟩ := h
  · exact .inl (.inl e)
  · exact .inl (.inr ⟨ob, e⟩)
theorem Tq.same {H H' : Hp} {a : Addr} {xs : List V} (h : Tq H a xs) (s : Same H H') : Tq H' a xs := by
  obtain ⟨o, e, u⟩ := h
  exact ⟨o, s _ _ e, u⟩
theorem Tq.live {H : Hp} {a : Addr} {xs : List V} (h : Tq H a xs) : H a ≠ none := by
  obtain ⟨o, e, _⟩ := h
  rw [e]
  simp
mutual
/-- v is the data d in H; all its objects' addresses are of A -/
inductive Dv (H : Hp) (A : Addr → Prop) : V → PyData → Prop
  | non : Dv H A .non .none
  | bl (b : Bool) : Dv H A (.bl b) (.bool b)
  | int (i : Int) : Dv H A (.int i) (.int i)
  | str (x : Str) : Dv H A (.str x) (.str x)
  | lst {a : Addr} {xs : List V} {ds : List PyData} : A a → H a = some (.lst xs) → DvAll H A xs ds → Dv H A (.ref a) (.list ds)
  | tupq {a : Addr} {xs : List V} {ds : List PyData} : A a → Tq H a xs → DvAll H A xs ds → Dv H A (.ref a) (.tuple ds)
  | dct {a : Addr} : A a → H a = some (.dK []) → Dv H A (.ref a) (.dict [])
inductive DvAll (H : Hp) (A : Addr → Prop) : List V → List PyData → Prop
  | nil : DvAll H A [] []
  | cons {v : V} {vs : List V} {d : PyData} {ds : List PyData} : Dv H A v d → DvAll H A vs ds → DvAll H A (v :: vs) (d :: ds)
end
section
variable {H H' : Hp} {A B : Addr → Prop}
mutual
theorem Dv.frame (e : ∀ b o, A b → H b = some o → H' b = some o) (m : ∀ b, A b → B b) : ∀ {v : V} {d : PyData}, Dv H A v d → Dv H' B v d
  | _, _, .non => .non
  | _, _, .bl b => .bl b
  | _, _, .int i => .int i
  | _, _, .str x => .str x
  | _, _, .lst ha h1 h2 => .lst (m _ ha) (e _ _ ha h1) (DvAll.frame e m h2)
  | _, _, .tupq ha h1 h2 => .tupq (m _ ha) (let ⟨o, e1, u⟩ := h1; ⟨o, e _ _ ha e1, u⟩) (DvAll.frame e m h2)
  | _, _, .dct ha h1 => .dct (m _ ha) (e _ _ ha h1)
theorem DvAll.frame (e : ∀ b o, A b → H b = some o → H' b = some o) (m : ∀ b, A b → B b) : ∀ {vs : List V} {ds : List PyData}, DvAll H A vs ds → DvAll H' B vs ds
  | _, _, .nil => .nil
  | _, _, .cons a r => .cons (Dv.frame e m a) (DvAll.frame e m r)
end
theorem Dv.same {v : V} {d : PyData} (s : Same H H') (h : Dv H A v d) : Dv H' A v d := h.frame (fun b o _ e => s b o e) fun _ a => a
theorem DvAll.same {vs : List V} {ds : List PyData} (s : Same H H') (h : DvAll H A vs ds) : DvAll H' A vs ds := h.frame (fun b o _ e => s b o e) fun _ a => a
theorem Dv.any {v : V} {d : PyData} (h : Dv H A v d) : Dv H (fun _ => True) v d := h.frame (fun _ _ _ e => e) fun _ _ => trivial
theorem DvAll.length : ∀ {vs : List V} {ds : List PyData}, DvAll H A vs ds → vs.length = ds.length
  | _, _, .nil => rfl
  | _, _, .cons _ r => by rw [List.length_cons, List.length_cons, DvAll.length r]
theorem DvAll.app : ∀ {vs ws : List V} {ds es : List PyData}, DvAll H A vs ds → DvAll H A ws es → DvAll H A (vs ++ ws) (ds ++ es)
  | _, _, _, _, .nil, b => b
  | _, _, _, _, .cons a r, b => .cons a (DvAll.app r b)
theorem DvAll.get : ∀ {vs : List V} {ds : List PyData} {i : Nat} {d : PyData}, DvAll H A vs ds → ds[i]? = some d → ∃ v, vs[i]? = some v ∧ Dv H A v d
  | _, _, _, _, .nil, h => by simp at h
  | _, _, 0, _, .cons a _, h => ⟨_, rfl, by have e := Option.some.inj h; subst e; exact a⟩
  | _, _, i + 1, _, .cons _ r, h => DvAll.get (i := i) r h
theorem DvAll.at_ : ∀ {vs : List V} {ds : List PyData} {i : Nat} {v : V}, DvAll H A vs ds → vs[i]? = some v → ∃ d, ds[i]? = some d ∧ Dv H A v d
  | _, _, _, _, .nil, h => by simp at h
  | _, _, 0, _, .cons a _, h => ⟨_, rfl, by have e := Option.some.inj h; subst e; exact a⟩
  | _, _, i + 1, _, .cons _ r, h => DvAll.at_ (i := i) r h
theorem DvAll.mem : ∀ {vs : List V} {ds : List PyData} {v : V}, DvAll H A vs ds → v ∈ vs → ∃ d ∈ ds, Dv H A v d
  | _, _, _, .nil, h => by simp at h
  | _, _, _, .cons a r, h => by
    rcases List.mem_cons.mp h with rfl | h
    · exact ⟨_, List.mem_cons_self, a⟩
    · obtain ⟨d, hd, q⟩ := DvAll.mem r h
      exact ⟨d, List.mem_cons_of_mem _ hd, q⟩
theorem DvAll.take : ∀ {vs : List V} {ds : List PyData} (n : Nat), DvAll H A vs ds → DvAll H A (vs.take n) (ds.take n)
  | _, _, 0, _ => .nil
  | _, _, _ + 1, .nil => .nil
  | _, _, n + 1, .cons a r => .cons a (DvAll.take n r)
theorem DvAll.drop : ∀ {vs : List V} {ds : List PyData} (n : Nat), DvAll H A vs ds → DvAll H A (vs.drop n) (ds.drop n)
  | _, _, 0, r => r
  | _, _, _ + 1, .nil => .nil
  | _, _, n + 1, .cons _ r => DvAll.drop n r
theorem DvAll.reverse : ∀ {vs : List V} {ds : List PyData}, DvAll H A vs ds → DvAll H A vs.reverse ds.reverse
  | _, _, .nil => .nil
  | _, _, .cons a r => by
    rw [List.reverse_cons, List.reverse_cons]
    exact DvAll.app (DvAll.reverse r) (.cons a .nil)
theorem DvAll.set : ∀ {vs : List V} {ds : List PyData} {v : V} {d : PyData} (i : Nat), DvAll H A vs ds → Dv H A v d → DvAll H A (vs.set i v) (ds.set i d)
  | _, _, _, _, _, .nil, _ => .nil
  | _, _, _, _, 0, .cons _ r, h => .cons h r
  | _, _, _, _, i + 1, .cons a r, h => .cons a (DvAll.set i r h)
theorem Dv.tup {a : Addr} {xs : List V} {ds : List PyData} (ha : A a) (h : H a = some (.tup xs)) (hx : DvAll H A xs ds) : Dv H A (.ref a) (.tuple ds) := .tupq ha (.of h) hx
theorem Dv.tup_inv {v : V} {ds : List PyData} (h : Dv H A v (.tuple ds)) : ∃ a xs, v = .ref a ∧ A a ∧ Tq H a xs ∧ DvAll H A xs ds := by
  cases h with
  | tupq a b c => exact ⟨_, _, rfl, a, b, c⟩
theorem Dv.lst_inv {v : V} {ds : List PyData} (h : Dv H A v (.list ds)) : ∃ a xs, v = .ref a ∧ A a ∧ H a = some (.lst xs) ∧ DvAll H A xs ds := by
  cases h with
  | lst a b c => exact ⟨_, _, rfl, a, b, c⟩
theorem Dv.int_inv {v : V} {i : Int} (h : Dv H A v (.int i)) : v = .int i := by cases h; rfl
theorem Dv.str_inv {v : V} {x : Str} (h : Dv H A v (.str x)) : v = .str x := by cases h; rfl
theorem Dv.bl_inv {v : V} {b : Bool} (h : Dv H A v (.bool b)) : v = .bl b := by cases h; rfl
theorem Dv.non_inv {v : V} (h : Dv H A v .none) : v = .non := by cases h; rfl
end
/-! ### types -/
def tyOf : PyData → String
  | .none => "NoneType"
  | .bool _ => "bool"
  | .int _ => "int"
  | .str _ => "str"
  | .list _ => "list"
  | .tuple _ => "tuple"
  | .dict _ => "dict"
theorem Dv.ty {K : PySem.W.Frag} {H : Hp} {A : Addr → Prop} {v : V} {d : PyData} (h : Dv H A v d) : TyX K H v (.type (tyOf d)) := by
  cases h with
  | non => exact .base .non
  | bl b => exact .base (.bl b)
  | int i => exact .base (.int i)
  | str x => exact .base (.str x)
  | lst a b c => exact .base (.lst b)
  | tupq a b c =>
    obtain ⟨o, e, rfl | ⟨ob, rfl⟩⟩ := b
    · exact .base (.tup e)
    · exact .fTuple e
  | dct a b => exact .base (.dK b)
theorem q_isiX {K : PySem.W.Frag} {H : Hp} {Q : VK} {x : V} {t T : String} {b : Bool} (ty : TyX K H x (.type t)) (h : kitB t T = some b) (q : Q (.bl b) H) : rIsi K [x, .ty T] H Q := ⟨x, .ty T, .type t, .type T, b, rfl, .ty T, ty, kit_ty h, q⟩
abbrev isTup : PyData → Bool | .tuple _ => true | _ => false
abbrev isLst : PyData → Bool | .list _ => true | _ => false
abbrev isStr : PyData → Bool | .str _ => true | _ => false
abbrev isBl : PyData → Bool | .bool _ => true | _ => false
abbrev isInt : PyData → Bool | .int _ => true | .bool _ => true | _ => false
section
variable {K : PySem.W.Frag} {H : Hp} {A : Addr → Prop} {v : V} {d : PyData} {Q : VK}
theorem q_isTup (h : Dv H A v d) (q : Q (.bl (isTup d)) H) : rIsi K [v, .ty "tuple"] H Q := q_isiX h.ty (by cases d <;> (simp only [tyOf, isTup]; decide +kernel)) q
theorem q_isLst (h : Dv H A v d) (q : Q (.bl (isLst d)) H) : rIsi K [v, .ty "list"] H Q := q_isiX h.ty (by cases d <;> (simp only [tyOf, isLst]; decide +kernel)) q
theorem q_isStr (h : Dv H A v d) (q : Q (.bl (isStr d)) H) : rIsi K [v, .ty "str"] H Q := q_isiX h.ty (by cases d <;> (simp only [tyOf, isStr]; decide +kernel)) q
theorem q_isBl (h : Dv H A v d) (q : Q (.bl (isBl d)) H) : rIsi K [v, .ty "bool"] H Q := q_isiX h.ty (by cases d <;> (simp only [tyOf, isBl]; decide +kernel)) q
theorem q_isInt (h : Dv H A v d) (q : Q (.bl (isInt d)) H) : rIsi K [v, .ty "int"] H Q := q_isiX h.ty (by cases d <;> (simp only [tyOf, isInt]; decide +kernel)) q
end
/-! ### a comprehension whose items are plain and whose turns let the heap grow -/
section
variable {g : TG} {tt : TT} {te : TE} {σ : L2.St} {H1 : Hp} {i : Nat}
theorem lc_grow {J : It} {G : Hp → Prop} {xs : List V} {D : Addr} {Qd : Hp → Prop} (w : Walk J xs.length G (YAt xs)) (f : V → V) (hz : xs.length < sizeLine) (hG : ∀ H, Same H1 H → G H)
    (ht : ∀ x ∈ xs, ∀ (H : Hp) (Q : Bool → Hp → Prop), Same H1 H → Q true H → tt ((wipe σ [i]).set i (some x)) H Q)
    (he : ∀ x ∈ xs, ∀ (H : Hp) (Q : VK), Same H1 H → (∀ H', Same H H' → Q (f x) H') → te ((wipe σ [i]).set i (some x)) H Q)
    (hD : H1 D = none) (hd : ∀ H', Same H1 H' → H' D = some (.lst (xs.map f)) → Qd H') :
    ∃ W : Nat → Nat → Hp → Prop, (∃ m, W 0 m (upd H1 D (.lst []))) ∧ ∀ j m H, W j m H →
      (J.stop j H ∧ Qd H) ∨ (J.go j H ∧ ∃ Nx : Hp → Prop, (∀ H', Nx H' → ∃ m', m' < m ∧ W (j + 1) m' H') ∧ ∀ x H', J.yld j H x H' → gName i x (wipe σ [i]) H' fun σ2 H2 => wipe σ2 [i] = wipe σ [i] ∧ tt σ2 H2 fun b H3 =>
        if b = true then te σ2 H3 fun y H4 => ∃ acc, H4 D = some (.lst acc) ∧ acc.length < sizeLine ∧ Nx (upd H4 D (.lst (acc ++ [y]))) else Nx H3) := by
  refine lc_it (g := gName i) w (fun j H => Same H1 H ∧ H D = some (.lst ((xs.take j).map f))) ⟨same_new hD, upd_same⟩ (fun j H _ e => hG _ e.1) ?_ ?_
  · rintro j x H H' hj ⟨s1, hL⟩ ⟨rfl, hc'⟩
    have hm : x ∈ xs := List.mem_of_getElem? hc'
    have et : xs.take (j + 1) = xs.take j ++ [x] := by
      rw [List.take_add_one, hc']
      rfl
    refine ⟨wipe_one σ i _, ht x hm _ _ s1 ?_⟩
    rw [if_pos rfl]
    refine he x hm _ _ s1 (fun H2 s2 => ⟨_, s2 _ _ hL, ?_, ?_, ?_⟩)
    · rw [List.length_map, List.length_take]
      omega
    · intro b o e
      rw [upd_ne (ne_of_none e hD)]
      exact s2 _ _ (s1 _ _ e)
    · rw [upd_same, et, List.map_append]
      rfl
  · rintro H ⟨s1, hL⟩
    rw [List.take_length] at hL
    exact hd H s1 hL
/-- the walk over (i, x) pairs or over values told by place -/
theorem lc_growI {J : It} {G : Hp → Prop} {n : Nat} {Y : Nat → Hp → V → Hp → Prop} {vs : List Nat} {D : Addr} {Qd : Hp → Prop} (w : Walk J n G Y) (f : Nat → V) (hz : n < sizeLine) (hG : ∀ H, Same H1 H → G H)
    (hY : ∀ j x H H', j < n → Same H1 H → Y j H x H' → Same H H')
    (he : ∀ j x H H' (Q : VK), j < n → Same H1 H → Y j H x H' → (∀ H2, Same H' H2 → Q (f j) H2) → g x (wipe σ vs) H' fun σ2 H2 => wipe σ2 vs = wipe σ vs ∧ tt σ2 H2 fun b H3 => b = true ∧ te σ2 H3 Q)
    (hD : H1 D = none) (hd : ∀ H', Same H1 H' → H' D = some (.lst ((List.range n).map f)) → Qd H')
    (mono : ∀ x σ' H R R', (∀ σ2 H2, R σ2 H2 → R' σ2 H2) → g x σ' H R → g x σ' H R') (monoT : ∀ σ' H (R R' : Bool → Hp → Prop), (∀ b H2, R b H2 → R' b H2) → tt σ' H R → tt σ' H R') :
    ∃ W : Nat → Nat → Hp → Prop, (∃ m, W 0 m (upd H1 D (.lst []))) ∧ ∀ j m H, W j m H →
      (J.stop j H ∧ Qd H) ∨ (J.go j H ∧ ∃ Nx : Hp → Prop, (∀ H', Nx H' → ∃ m', m' < m ∧ W (j + 1) m' H') ∧ ∀ x H', J.yld j H x H' → g x (wipe σ vs) H' fun σ2 H2 => wipe σ2 vs = wipe σ vs ∧ tt σ2 H2 fun b H3 =>
        if b = true then te σ2 H3 fun y H4 => ∃ acc, H4 D = some (.lst acc) ∧ acc.length < sizeLine ∧ Nx (upd H4 D (.lst (acc ++ [y]))) else Nx H3) := by
  refine lc_it (g := g) w (fun j H => Same H1 H ∧ H D = some (.lst ((List.range j).map f))) ⟨same_new hD, upd_same⟩ (fun j H _ e => hG _ e.1) ?_ ?_
  · rintro j x H H' hj ⟨s1, hL⟩ y
    refine mono _ _ _ _ _ (fun σ2 H2 q => ⟨q.1, monoT _ _ _ _ (fun b H3 z => ?_) q.2⟩) (he j x H H' (fun y H4 => ∃ acc, H4 D = some (.lst acc) ∧ acc.length < sizeLine ∧ Same H1 (upd H4 D (.lst (acc ++ [y]))) ∧ upd H4 D (.lst (acc ++ [y])) D = some (.lst ((List.range (j + 1)).map f))) hj s1 y fun H2 s2 => ?_)
    · rw [if_pos z.1]
      exact z.2
    · have s3 := (hY j x H H' hj s1 y).trans s2
      refine ⟨_, s3 _ _ hL, ?_, ?_, ?_⟩
      · rw [List.length_map, List.length_range]
        omega
      · intro b o e
        rw [upd_ne (ne_of_none e hD)]
        exact s3 _ _ (s1 _ _ e)
      · rw [upd_same, List.range_succ, List.map_append]
        rfl
  · rintro H ⟨s1, hL⟩
    exact hd H s1 hL
end
/-! ### a list or a tuple beside an empty one -/
def rEqE (K : PySem.W.Frag) : R2 := fun x y H Q => ∃ a b xs, x = .ref a ∧ y = .ref b ∧ ((SqL K H a xs ∧ SqL K H b []) ∨ (SqT K H a xs ∧ SqT K H b [])) ∧ Q (.bl xs.isEmpty) H
section
variable {X : Cx}
theorem len_ne {us : List Value} (h : us ≠ []) : (us.toArray.size != ([] : List Value).toArray.size) = true := by
  cases us with
  | nil => exact absurd rfl h
  | cons u r => simp
theorem op_eqE (hu : X.A.units + 64 < cLine) : OpR X (compareOp .Eq) (rEqE X.K) := by
  intro pins s σ H x y v u Q I rx ry h
  obtain ⟨a, b, xs, rfl, rfl, h, q⟩ := h
  cases (show v = Value.ref a from rx)
  cases (show u = Value.ref b from ry)
  rcases h with ⟨ha, hb⟩ | ⟨ha, hb⟩
  · cases xs with
    | nil => exact op_eqD hu pins s σ H (.ref a) (.ref b) (.ref a) (.ref b) Q I rfl rfl ⟨.list [], .list [], .lst ha .nil, .lst hb .nil, rfl, rfl, q⟩
    | cons z zs =>
      obtain ⟨us, r1, p1, _⟩ := I.list ha
      obtain ⟨ws, r2, p2, _⟩ := I.list hb
      cases r2
      exact SeqAt.eq_list_lengthsAt p1.isList p2.isList (len_ne fun e => by subst e; cases r1) (by omega) ⟨.bl false, H, I, rfl, q⟩
  · obtain ⟨us, r1, p1, _⟩ := I.tuple ha
    obtain ⟨ws, r2, p2, _⟩ := I.tuple hb
    cases r2
    refine SeqAt.eq_tupleAt (e := fun _ => true) (show s.heap.IsTuple a us.toArray from p1) (show s.heap.IsTuple b [].toArray from p2) (by omega) (fun j h1 h2 => by simp at h2) ?_
    have e : ((List.range (min us.toArray.size ([] : List Value).toArray.size)).all (fun _ => true) && us.toArray.size == ([] : List Value).toArray.size) = xs.isEmpty := by
      cases r1 with
      | nil => rfl
      | cons => simp
    rw [e]
    exact ⟨.bl _, H, I, rfl, q⟩
/-- list != [] -/
def rNeE (K : PySem.W.Frag) : R2 := fun x y H Q => ∃ a b xs, x = .ref a ∧ y = .ref b ∧ SqL K H a xs ∧ SqL K H b [] ∧ Q (.bl (!xs.isEmpty)) H
theorem op_neE (hu : X.A.units + 64 < cLine) : OpR X (compareOp .NotEq) (rNeE X.K) := by
  intro pins s σ H x y v u Q I rx ry h
  obtain ⟨a, b, xs, rfl, rfl, ha, hb, q⟩ := h
  cases (show v = Value.ref a from rx)
  cases (show u = Value.ref b from ry)
  cases xs with
  | nil => exact op_neD hu pins s σ H (.ref a) (.ref b) (.ref a) (.ref b) Q I rfl rfl ⟨.list [], .list [], .lst ha .nil, .lst hb .nil, rfl, rfl, q⟩
  | cons z zs =>
    obtain ⟨us, r1, p1, _⟩ := I.list ha
    obtain ⟨ws, r2, p2, _⟩ := I.list hb
    cases r2
    exact SeqAt.RcNeAt.lists_lengths p1.isList p2.isList (len_ne fun e => by subst e; cases r1) (by omega) _ _ _ _ ⟨.bl true, H, I, rfl, q⟩
end
end Ak

set_option maxHeartbeats 4000000
/-! AkRule: rules the hand layer lacks. -/
namespace Ak
open PySem PySem.Spec PyProof.Rows L2 TL
/-! ### sorted(t), t a tuple of texts -/
section
variable {prog : Program} {w : World} {A : Around} {E : Value → Shared → Prop} {s : Shared}
theorem collect_tup {l : Addr} {vs : List Value} {Q : List Value → Shared → Prop} (hl : s.heap.IsTuple l vs.toArray)
    (h : Q vs { s with heap := (s.heap.push (seqObj "list" #[] 0)).update s.heap.objs.size (Obj.mapSeq (· ++ vs.toArray)) }) (hsz : vs.length ≤ sizeLine) : wpAny (model prog w) A (collect (.ref l)) Q E s := by
  obtain ⟨o, ho, hc, n, hd⟩ := id hl
  have up := Heap.get?_push_of_some (seqObj "list" #[] 0) ho
  have at0 : (s.heap.push (seqObj "list" #[] 0)).get? s.heap.objs.size = some (seqObj "list" #[] 0) := Heap.get?_push_size _ rfl
  unfold collect
  refine wpAny_bind (wpAny_runValue (codeAny_builtin entry_proto_collect' ?_))
  show wpAny _ _ (do again (.builtin "list.__iadd__" ⟨[← newList [], .ref l], []⟩)) _ _ s
  refine wpAny_bind (wpAny_newList (wpAny_pure ⟨Code.quiet_builtin _ (by decide +kernel), codeAny_builtin entry_list_iadd' ?_⟩))
  show wpAny _ _ (Builtin.List.listExtendWith (.ref s.heap.objs.size) (.ref l) (.ref s.heap.objs.size)) _ _ { s with heap := s.heap.push (seqObj "list" #[] 0) }
  unfold Builtin.List.listExtendWith
  refine wpAny_bind (wpAny_typeOf (T := "tuple") ⟨o, up, hc⟩ ?_)
  rw [if_pos (by simp)]
  refine wpAny_bind (listItems_at up hd (wpAny_bind (listItems_at at0 rfl ?_)))
  rw [if_neg (by simp)]
  refine wpAny_bind (listUpdate_at at0 rfl (wpAny_pure ?_) (Nat.zero_le _) ?_)
  · show wpAny (model prog w) A (do
      let o ← load s.heap.objs.size
      match o.data with
      | .seq xs _ => pure xs.toList
      | _ => unsupported "internal:collect") Q E { s with heap := (s.heap.push (seqObj "list" #[] 0)).update s.heap.objs.size (Obj.mapSeq (· ++ vs.toArray)) }
    refine wpAny_bind (wpAny_load (get?_update_seq at0 _) ?_)
    show wpAny _ _ (pure ((#[] : Array Value) ++ vs.toArray).toList) Q E _
    have e : ((#[] : Array Value) ++ vs.toArray).toList = vs := by simp
    rw [e]
    exact wpAny_pure h
  · show ((#[] : Array Value) ++ vs.toArray).size ≤ sizeLine + 1
    simp only [Array.size_append, List.size_toArray, List.length_nil]
    omega
theorem sorted_tupS {l : Addr} {vs : List Value} {ss : List Str} {Q : Value → Shared → Prop} (hl : s.heap.IsTuple l vs.toArray) (hS : StrsAre vs ss) (hL : vs.length ≤ sizeLine)
    (h : ∀ (out : Array Value) (ss' : List Str), StrsAre out.toList ss' → ss'.Perm ss → sortedS ss' = true → Q (.ref (s.heap.objs.size + 1)) { s with heap := sortedAll s.heap vs out }) :
    wpAny (model prog w) A (call (.builtin "sorted") [.ref l]) Q E s := by
  refine Calls.call_function_entry kind_sorted plain_sorted entry_sorted (args_sorted1 _) ?_
  unfold Builtin.«sorted»
  refine wpAny_bind (m := checkCount "sorted" 1 1 _) (wpAny_pure (wpAny_bind (collect_tup hl (wpAny_bind (wpAny_newList ?_)) hL)))
  have sz : ((s.heap.push (seqObj "list" #[] 0)).update s.heap.objs.size (Obj.mapSeq (· ++ vs.toArray))).objs.size = s.heap.objs.size + 1 := by rw [Heap.size_update, size_push']
  have new : (((s.heap.push (seqObj "list" #[] 0)).update s.heap.objs.size (Obj.mapSeq (· ++ vs.toArray))).push (seqObj "list" vs.toArray 0)).get? (s.heap.objs.size + 1) = some (seqObj "list" vs.toArray 0) := by
    rw [← sz]
    exact Heap.get?_push_size _ rfl
  show wpAny _ _ _ _ _ { s with heap := ((s.heap.push (seqObj "list" #[] 0)).update s.heap.objs.size (Obj.mapSeq (· ++ vs.toArray))).push (seqObj "list" vs.toArray 0) }
  rw [sz]
  refine wpAny_bind (wpAny_holding (wpAny_call_entry slot_list_sort ⟨_, new, rfl⟩ entry_list_sort (list_sort_treeKAny strKind_oneLt new hS.keysOf (fun _ _ _ e => keyKind_strs (by rw [← e]; exact hS)) hL fun st hp hs => ⟨_, rfl, ?_⟩) (args_list_sort _)))
  obtain ⟨ss', h1, h2, h3⟩ := sorted_out_str hS hp hs
  exact wpAny_pure ⟨_, rfl, h _ ss' h1 h2 h3⟩
end
def rSortedTS (K : PySem.W.Frag) : List V → Hp → VK → Prop := fun vs H Q => ∃ (a : Addr) (xs : List Str), vs = [V.ref a] ∧ SqT K H a (xs.map V.str) ∧ xs.length ≤ 90000 ∧
  ∀ (ys : List Str) (p : Addr), ys.Perm xs → sortedS ys = true → H p = none → Q (.ref p) (upd H p (.lst (ys.map V.str)))
theorem cr_sortedTS {X : Cx} : CallR X (.builtin "sorted") (rSortedTS X.K) := by
  intro pins s σ H vs us Q I r h
  obtain ⟨a, xs, rfl, hs, hz, q⟩ := h
  obtain ⟨its, rv, hl, _⟩ := I.tuple hs
  rw [Vals.ref1 r]
  have hlen0 := rv.length
  rw [List.length_map] at hlen0
  have big : (90000 : Nat) ≤ sizeLine := by decide
  refine sorted_tupS (show s.heap.IsTuple a its.toArray from hl) rv.strs (by omega) fun out ys h1 h2 h3 => ?_
  obtain ⟨ep, he'⟩ := PyProof.Rows.sortedAll_at s.heap its out
  have hlen : (ys.map V.str).length ≤ sizeLine := by rw [List.length_map, h2.length_eq]; omega
  exact ⟨.ref _, upd H (s.heap.objs.size + 1) (.lst (ys.map V.str)), I.laid (t' := s.toks) (fun _ _ => PyProof.Rows.sortedAll_old) (Nat.le_succ _) ⟨hlen, out.toList, ep, vals_of_strs h1, he'⟩, rfl, q ys _ h2 h3 (I.hok.fresh (Nat.le_succ _))⟩
/-! ### s[::-1], t[::-1] -/
theorem fm_congr {α β : Type} {f g : α → Option β} : ∀ {l : List α}, (∀ x ∈ l, f x = g x) → l.filterMap f = l.filterMap g
  | [], _ => rfl
  | x :: l, h => by
    rw [List.filterMap_cons, List.filterMap_cons, h x List.mem_cons_self, fm_congr fun y hy => h y (List.mem_cons_of_mem _ hy)]
theorem back_pick {α : Type} (xs : Array α) : ((List.range xs.size).filterMap fun (k : Nat) => xs[(((xs.size : Nat) : Int) - 1 + (k : Int) * (-1)).toNat]?) = xs.toList.reverse := by
  have e : ((List.range xs.size).filterMap fun (k : Nat) => xs[(((xs.size : Nat) : Int) - 1 + (k : Int) * (-1)).toNat]?) = ((List.range xs.size).map fun k => xs.size - 1 - k).filterMap (xs[·]?) := by
    rw [List.filterMap_map]
    apply fm_congr
    intro k hk
    have := List.mem_range.mp hk
    have e1 : (((xs.size : Nat) : Int) - 1 + (k : Int) * (-1)).toNat = xs.size - 1 - k := by omega
    show xs[(((xs.size : Nat) : Int) - 1 + (k : Int) * (-1)).toNat]? = xs[xs.size - 1 - k]?
    rw [e1]
  rw [e, PySem.W.krv_range, List.filterMap_reverse, PySem.W.krv_all]
theorem back_places (n : Nat) : Builtin.Slice.slicePlaces ((n : Int) - 1) (-1) (-1) = n := by
  unfold Builtin.Slice.slicePlaces
  rw [if_neg (by decide)]
  by_cases h : (n : Int) - 1 > -1
  · rw [if_pos h]
    show (((n : Int) - 1 - -1 - 1) / 1 + 1).toNat = n
    rw [Int.ediv_one]
    omega
  · rw [if_neg h]
    omega
section
variable {prog : Program} {w : World} {A : Around} {E : Value → Shared → Prop} {s : Shared}
theorem applied_back {sl : Addr} {vl vu vs : Value} {n : Nat} {Q : Int × Int × Nat → Shared → Prop} (hs : s.heap.IsSliceOf sl vl vu vs) (pl : IsPart vl none) (pu : IsPart vu none) (ps : IsPart vs (some (-1)))
    (h : Q ((n : Int) - 1, -1, n) s) : wpAny (model prog w) A (Builtin.Slice.sliceApplied (.ref sl) (pure (n : Int))) Q E s := by
  obtain ⟨os, hos, hcs, hds⟩ := id hs
  unfold Builtin.Slice.sliceApplied Builtin.Slice.sliceFields
  refine wpAny_bind (wpAny_bind (wpAny_field hos hds (x := vl) rfl (wpAny_bind (wpAny_field hos hds (x := vu) rfl (wpAny_bind (wpAny_field hos hds (x := vs) rfl (wpAny_pure ?_)))))))
  refine wpAny_bind (HT.slicePart_ ps ?_)
  show wpAny _ _ (if ((-1 : Int) == 0) = true then _ else _) _ _ s
  rw [if_neg (by decide)]
  refine wpAny_bind (HT.slicePart_ pl (wpAny_bind (HT.slicePart_ pu (wpAny_bind (wpAny_pure ?_)))))
  show wpAny _ _ (pure ((n : Int) - 1, (-1 : Int), Builtin.Slice.slicePlaces ((n : Int) - 1) (-1) (-1))) _ _ s
  rw [back_places]
  exact wpAny_pure h
theorem tuple_back {t sl : Addr} {items : Array Value} {vl vu vs : Value} {Q : Value → Shared → Prop} (ht : IsTup s.heap t items) (hs : s.heap.IsSliceOf sl vl vu vs) (pl : IsPart vl none) (pu : IsPart vu none) (ps : IsPart vs (some (-1)))
    (h : Q (.ref s.heap.objs.size) { s with heap := s.heap.push { cls := .type "tuple", data := .seq items.toList.reverse.toArray } }) (hsz : items.size ≤ sizeLine) : wpAny (model prog w) A (getItem (.ref t) (.ref sl)) Q E s := by
  have room : sizeOk (.seq items.toList.reverse.toArray) := by
    show items.toList.reverse.toArray.size ≤ sizeLine
    simpa using hsz
  obtain ⟨os, hos, hcs, hds⟩ := id hs
  have hTs : s.TypeIs (.ref sl) "slice" := ⟨os, hos, hcs⟩
  unfold getItem
  try with_reducible refine wpAny_holding ?_
  first | refine wpAny_bind (wpAny_pure ?_) | skip
  refine wpAny_bind (wpAny_sequenceKey ht.typeIs (by decide) (wpAny_bind (wpAny_callSpecial?_slot (name := Str.ofString "__getitem__") ht.typeIs PyProof.Rows.slot_tuple_getitem
    (wpAny_call_entry PyProof.Rows.slot_tuple_getitem ht.typeIs PyProof.Rows.entry_tuple_getitem ?_ (PyProof.Rows.args_tuple_getitem _ _)))))
  show wpAny _ _ (Builtin.Tuple.tupleItemsOf (.ref t) >>= _) _ _ s
  refine wpAny_bind (tupleItemsOf_ ht (wpAny_bind (wpAny_typeOf hTs ?_)))
  rw [if_pos (by decide)]
  refine wpAny_bind (applied_back hs pl pu ps ?_)
  show wpAny _ _ (if ((((items.size : Nat) : Int) - 1 == 0 && (-1 : Int) == 1) && items.size == items.size) = true then _ else _) _ _ s
  rw [if_neg (by simp), back_pick]
  first
    | exact wpAny_bind (m := Builtin.Tuple.tupleExact _) (wpAny_newObj_type (wpAny_pure ⟨_, rfl, wpAny_pure h⟩) room)
    | exact wpAny_bind (m := Builtin.Tuple.tupleExact _) (wpAny_newObj_type (wpAny_bind (wpAny_pure (wpAny_pure ⟨_, rfl, wpAny_pure h⟩))) room)
    | exact wpAny_bind (wpAny_bind (m := Builtin.Tuple.tupleExact _) (wpAny_newObj_type (wpAny_pure (wpAny_pure ⟨_, rfl, wpAny_pure h⟩)) room))
    | exact wpAny_bind (wpAny_bind (m := Builtin.Tuple.tupleExact _) (wpAny_newObj_type (wpAny_pure ⟨_, rfl, wpAny_pure h⟩) room))
theorem text_back {x : Str} {t : Tok} {sl : Addr} {vl vu vs : Value} {Q : Value → Shared → Prop} (hs : s.heap.IsSliceOf sl vl vu vs) (pl : IsPart vl none) (pu : IsPart vu none) (ps : IsPart vs (some (-1))) (hz : x.length ≤ sizeLine)
    (h : ∀ t' k, Q (.str ⟨x.cps.toList.reverse.toArray⟩ t') { s with toks := k }) : wpAny (model prog w) A (getItem (.str x t) (.ref sl)) Q E s := by
  obtain ⟨os, hos, hcs, hds⟩ := hs
  obtain ⟨l, rfl, el⟩ := IsPart.raw pl
  obtain ⟨u, rfl, eu⟩ := IsPart.raw pu
  obtain ⟨st, rfl, es⟩ := IsPart.raw ps
  cases l with
  | some l => cases el
  | none =>
  cases u with
  | some u => cases eu
  | none =>
  cases st with
  | none => cases es
  | some st =>
    obtain ⟨k, tk⟩ := st
    have ek : k = -1 := Option.some.inj es
    subst ek
    refine wpAny_getItem_str_slice (l := none) (u := none) (st := some (-1, tk)) ⟨os, hos, hcs, hds⟩ (by rfl) ?_
    have e1 : Builtin.Str.strSliceIndices none none (-1) x.length = (List.range x.length).map fun k => x.length - 1 - k := by
      show sliceRange ((x.length : Int) - 1) (-1) (-1) = _
      exact PySem.W.krv_sliceRange _
    have e2 : (slicePicked x none none (some (-1, tk))).filterMap (x.cps[·]?) = x.cps.toList.reverse := by
      show (Builtin.Str.strSliceIndices none none (-1) x.length).filterMap (x.cps[·]?) = _
      rw [e1, PySem.W.krv_range, List.filterMap_reverse]
      exact congrArg List.reverse (PySem.W.krv_all x.cps)
    show Made.post (if ((-1 : Int) == 1 && (slicePicked x none none (some (-1, tk))).length == x.length) = true then .val (.str x t) else .str ⟨((slicePicked x none none (some (-1, tk))).filterMap (x.cps[·]?)).toArray⟩) Q s
    rw [if_neg (by simp), e2]
    refine ⟨?_, h _ _⟩
    show x.cps.toList.reverse.toArray.size ≤ sizeLine
    rw [List.size_toArray, List.length_reverse, Array.length_toList]
    exact hz
end
/-- e[::-1], e a list, a tuple, a text -/
def tBack (K : PySem.W.Frag) (te : TE) : TE := fun σ H Q => te σ H fun x H1 => (∃ a xs, x = .ref a ∧ SqL K H1 a xs ∧ ∀ p, H1 p = none → Q (.ref p) (upd H1 p (.lst xs.reverse))) ∨
  (∃ a xs, x = .ref a ∧ SqT K H1 a xs ∧ ∀ p, H1 p = none → Q (.ref p) (upd H1 p (.tup xs.reverse))) ∨ (∃ z : Str, x = .str z ∧ z.length ≤ sizeLine ∧ Q (.str ⟨z.cps.toList.reverse.toArray⟩) H1)
theorem pe_back {X : Cx} {K : PySem.W.Frag} {e : Expr} {te : TE} {k : Nat} {p1 p2 p3 pos : Pos} (hK : X.K = K) (he : PE X e te) : PE X (.Subscript e (.Slice none none (some (.UnaryOp .USub (.Constant (.int 1) k p1) p2)) p3) pos) (tBack K te) := by
  subst hK
  refine ⟨fun pins s σ H Q I h => ?_⟩
  refine Subscript_ (thn (he.run pins s σ H _ I h) fun v s1 ⟨x, H1, I1, r1, q1⟩ => ?_)
  have hst : PO X (some (.UnaryOp .USub (.Constant (.int 1) k p1) p2)) (tPart (tUn (rU fun i => .int (-i)) (tC (.int 1)))) := po_some (pe_un un_neg pe_int)
  refine wpAny_Slice (thn (po_none.run pins s1 σ H1 (fun o H2 => o = none ∧ H2 = H1) I1 ⟨rfl, rfl⟩) fun vl s2 ⟨l, H2, I2, pl, el, e2⟩ => ?_)
  subst el e2
  refine thn (po_none.run pins s2 σ H2 (fun o H3 => o = none ∧ H3 = H2) I2 ⟨rfl, rfl⟩) fun vu s3 ⟨u, H3, I3, pu, eu, e3⟩ => ?_
  subst eu e3
  refine thn (hst.run pins s3 σ H3 (fun o H4 => o = some (-1) ∧ H4 = H3) I3 ⟨1, rfl, -1, rfl, rfl, rfl⟩) fun vs s4 ⟨o, H4, I4, ps, eo, e4⟩ => ?_
  subst eo e4
  have I5 : Inv X pins σ H4 { s4 with heap := s4.heap.push { cls := .type "slice", data := .fields #[vl, vu, vs] } } := I4.kept (t' := s4.toks) fun b ob q => Heap.get?_push_of_some _ q
  rcases q1 with ⟨a, xs, ex, hx, q⟩ | ⟨a, xs, ex, hx, q⟩ | ⟨z, ex, hz, q⟩
  · subst ex
    cases r1
    obtain ⟨its, r, ht, hz⟩ := I5.list hx
    have hlen := r.length
    show wpAny (model X.prog X.w) X.A (subscriptTail e (.Slice none none (some (.UnaryOp .USub (.Constant (.int 1) k p1) p2)) p3) (.ref a) (.ref s4.heap.objs.size)) (EP X pins σ Q) X.xe { s4 with heap := s4.heap.push { cls := .type "slice", data := .fields #[vl, vu, vs] } }
    refine tail_any (ops := [.ref a, .ref s4.heap.objs.size]) ht.isList.typeIs (PySem.slot_list_getitem.lookup) ?_ (by with_unfolding_all rfl)
    refine wpAny_getItem_list_slice ht.isList (Heap.IsSliceOf.new _ vl vu vs) pl pu ps (by decide) ?_ (by rw [List.size_toArray]; omega)
    rw [PySem.W.krv_pick]
    refine ⟨.ref _, _, I5.laid (t' := s4.toks) (o := .lst xs.reverse) (fun b ob q => Heap.get?_push_of_some _ q) (Nat.le_refl _) ?_, rfl, q _ (I5.hok.fresh (Nat.le_refl _))⟩
    exact ⟨by rw [List.length_reverse]; exact hz, _, 0, r.reverse, Heap.get?_push_size _ rfl⟩
  · subst ex
    cases r1
    obtain ⟨its, r, ht, hz⟩ := I5.tuple hx
    have hlen := r.length
    show wpAny (model X.prog X.w) X.A (subscriptTail e (.Slice none none (some (.UnaryOp .USub (.Constant (.int 1) k p1) p2)) p3) (.ref a) (.ref s4.heap.objs.size)) (EP X pins σ Q) X.xe { s4 with heap := s4.heap.push { cls := .type "slice", data := .fields #[vl, vu, vs] } }
    refine tail_any (ops := [.ref a, .ref s4.heap.objs.size]) ht.typeIs (PyProof.Rows.slot_tuple_getitem.lookup) ?_ (by with_unfolding_all rfl)
    refine tuple_back ht (Heap.IsSliceOf.new _ vl vu vs) pl pu ps ?_ (by rw [List.size_toArray]; omega)
    refine ⟨.ref _, _, I5.laid (t' := s4.toks) (o := .tup xs.reverse) (fun b ob q => Heap.get?_push_of_some _ q) (Nat.le_refl _) ?_, rfl, q _ (I5.hok.fresh (Nat.le_refl _))⟩
    exact ⟨by rw [List.length_reverse]; exact hz, _, r.reverse, IsTup.new _ _⟩
  · subst ex
    obtain ⟨t, rfl⟩ := r1
    show wpAny (model X.prog X.w) X.A (subscriptTail e (.Slice none none (some (.UnaryOp .USub (.Constant (.int 1) k p1) p2)) p3) (.str z t) (.ref s4.heap.objs.size)) (EP X pins σ Q) X.xe { s4 with heap := s4.heap.push { cls := .type "slice", data := .fields #[vl, vu, vs] } }
    refine tail_any (ops := [.str z t, .ref s4.heap.objs.size]) (typeIs_str _ _ _) (F.slot_str_getitem.lookup) ?_ (by with_unfolding_all rfl)
    exact text_back (Heap.IsSliceOf.new _ vl vu vs) pl pu ps hz fun t' k => ⟨.str _, H4, I5.tok _, ⟨_, rfl⟩, q⟩
/-! ### set(l), l a list of ints -/
abbrev set0 (w : World) : Obj := { cls := .type "set", dict := none, data := .set #[] 0 (.fresh 0 0 (!w.params.followText "set-order")) }
section
variable {P : Program} {w : World} {A : Around} {E : Value → Shared → Prop} {s : Shared}
theorem set_init_lst {B : Around} {l : Addr} {items : Array Value} {ns : List Int} (hB : B.handled = none) (hl : s.heap.IsList l items) (hi : IntsAre items.toList ns) (hb : ns.length + 1 < scanBound) :
    wpAny (model P w) B (Builtin.«set.__init__» ⟨[.ref s.heap.objs.size, .ref l], []⟩) (fun f s₂ => f = .done (.ret .none) ∧ ∃ h' tk c, s₂ = { s with heap := h', toks := tk } ∧ SetR w h' s.heap.objs.size (fun j => decide (j ∈ ns)) c ∧ c ≤ ns.length ∧
      (∀ b o, s.heap.get? b = some o → h'.get? b = some o)) E { s with heap := s.heap.push (set0 w) } := by
  have n1 : items.size = ns.length := by
    have q := IntsAre.length hi
    rwa [Array.length_toList] at q
  have new : (s.heap.push (set0 w)).get? s.heap.objs.size = some (set0 w) := Heap.get?_push_size _ rfl
  obtain ⟨⟨oc, od, ot, os⟩, ho, hc, nl, hd⟩ := hl
  simp only at hc hd
  subst hc hd
  have hlt : l < s.heap.objs.size := Heap.lt_size ho
  have up : (s.heap.push (set0 w)).get? l = some { cls := .type "list", dict := od, data := .seq items nl, slots := os } := Heap.get?_push_of_some _ ho
  have isl : (s.heap.push (set0 w)).IsList l items := ⟨_, up, rfl, nl, rfl⟩
  have f1 := F.sub_list_set
  have f2 := F.sub_list_frozenset
  have f3 : (Value.type "list" == Value.type "dict") = false := by decide
  unfold Builtin.«set.__init__» noKeywords Builtin.Frozenset.updateFrom
  generalize hPI : pyIter = PI
  wp_walk
  subst hPI
  refine wpAny_pyIter_list isl (wpAny_bind (wpAny_runValue ?_))
  have sz : (s.heap.push (set0 w)).objs.size = s.heap.objs.size + 1 := Heap.size_push ..
  have a1 : l ≠ (s.heap.push (set0 w)).objs.size := by rw [sz]; exact Nat.ne_of_lt (Nat.lt_succ_of_lt hlt)
  have a2 : s.heap.objs.size ∉ [(s.heap.push (set0 w)).objs.size, l] := by
    rw [sz]
    simp only [List.mem_cons, List.not_mem_nil, or_false, not_or]
    exact ⟨Nat.ne_of_lt (Nat.lt_succ_self _), Nat.ne_of_gt hlt⟩
  have val : ∀ (i : Nat) (v : Value), items[i]? = some v → ∃ k t, ns[i]? = some k ∧ v = .int k t := fun i v hv => by
    have h1 : i < ns.length := by
      rw [← n1]
      exact (Array.getElem?_eq_some_iff.mp hv).1
    obtain ⟨t, e⟩ := IntsAre.int_at hi i v (by rw [Array.getElem?_toList]; exact hv)
    exact ⟨ns[i], t, List.getElem?_eq_getElem h1, by rw [e, List.getD_eq_getElem?_getD, List.getElem?_eq_getElem h1]; rfl⟩
  refine set_update_ints ((Walks.list (show B.in1.handled = none by simp [hB]) _ l a1 items).toS) s.heap.objs.size a2 ns n1 hb val (items.size - 0) 0 _ (by omega) (Nat.zero_le _) ⟨⟨_, Heap.get?_push_size _ rfl, rfl, rfl⟩, isl.push _⟩
    ⟨0, Nat.le_refl 0, setR_new_at (Heap.get?_push_of_some _ new)⟩ ?_
  rintro ⟨h', g2, d', tk', os'⟩ c hm hc hS
  obtain rfl : g2 = s.gens := hm.gens
  obtain rfl : d' = s.drawn := hm.drawn
  obtain rfl : os' = s.os := hm.os
  refine wpAny_pure (wpAny_pure ⟨rfl, h', tk', c, rfl, hS, by omega, fun b o e => ?_⟩)
  have hb0 : b < s.heap.objs.size := Heap.lt_size e
  refine hm.heap b o ?_ (Heap.get?_push_of_some _ (Heap.get?_push_of_some _ e))
  rw [sz]
  simp only [List.mem_cons, List.not_mem_nil, or_false, not_or]
  exact ⟨Nat.ne_of_lt hb0, Nat.ne_of_lt (Nat.lt_succ_of_lt hb0)⟩
theorem call_set_lst {l : Addr} {items : Array Value} {ns : List Int} {Q : Value → Shared → Prop} (hh : A.handled = none) (hl : s.heap.IsList l items) (hi : IntsAre items.toList ns) (hb : ns.length + 1 < scanBound)
    (h : ∀ (h' : Heap) (tk c : Nat), SetR w h' s.heap.objs.size (fun j => decide (j ∈ ns)) c → c ≤ ns.length → (∀ b o, s.heap.get? b = some o → h'.get? b = some o) → Q (.ref s.heap.objs.size) { s with heap := h', toks := tk }) :
    wpAny (model P w) A (call (.type "set") [.ref l]) Q E s := by
  obtain ⟨c, tl, hmro⟩ := F.called_set.mro
  have b1 := F.called_set.made
  have b2 := F.called_set.sub
  have b3 := F.called_set.notType
  have b4 := F.called_set.canCreate
  have b5 := F.typeCall_set_1 (.ref l)
  refine wpAny_call (codeAny_of_tree (wpAny_pure ⟨Code.quiet_builtin _ (by decide +kernel), codeAny_builtin F.entry_type_call ?_⟩))
  rw [Around.under_plain (weight_type_call_type "set" [.ref l] []) rfl]
  repeat (any_goals (first | assumption | wp_step))
  refine codeAny_mono (code_set_led1 (.ref l) (E := E) (Q₁ := fun obj s₁ => obj = .ref s.heap.objs.size ∧ s₁ = { s with heap := s.heap.push (set0 w) }) ⟨rfl, rfl⟩) fun r s₁ hr => ?_
  match r, hr with
  | .error e, hr => exact hr
  | .ok .next, hr => exact hr.elim
  | .ok .brk, hr => exact hr.elim
  | .ok .cont, hr => exact hr.elim
  | .ok (.ret obj), ⟨e1, e2⟩ =>
    subst e1 e2
    have hT : Shared.TypeIs { s with heap := s.heap.push (set0 w) } (.ref s.heap.objs.size) "set" := ⟨_, Heap.get?_push_size _ rfl, rfl⟩
    have b6 := F.called_set.init.lookup
    have b7 := F.called_set.init.bind (.ref s.heap.objs.size)
    repeat (any_goals (first | assumption | wp_step))
    refine codeAny_mono (codeAny_call_builtin (R := wants (fun r s₂ => r = .none ∧ ∃ h' tk c, s₂ = { s with heap := h', toks := tk } ∧ SetR w h' s.heap.objs.size (fun j => decide (j ∈ ns)) c ∧ c ≤ ns.length ∧
      (∀ b o, s.heap.get? b = some o → h'.get? b = some o)) E) F.called_set.init.plain F.entry_set_init (check_set_init_1 hT ?_)) fun r₂ s₂ h₂ => ?_
    · refine wpAny_mono (set_init_lst (E := E) (P := P) (w := w) (s := s) (by simp [hh]) hl hi hb) (fun f s₂ hf => ?_) fun _ _ e => e
      obtain ⟨rfl, q⟩ := hf
      exact ⟨rfl, q⟩
    · match r₂, h₂ with
      | .error e, h₂ => exact h₂
      | .ok .next, h₂ => exact h₂.elim
      | .ok .brk, h₂ => exact h₂.elim
      | .ok .cont, h₂ => exact h₂.elim
      | .ok (.ret r), ⟨e1, h', tk, c', e2, k1, k2, k3⟩ =>
        subst e1 e2
        repeat (any_goals (first | assumption | wp_step))
        exact h _ _ _ k1 k2 k3
end
/-- set(l), a list of ints -/
def rSetI (K : PySem.W.Frag) (w : World) : List V → Hp → VK → Prop := fun xs H Q => ∃ (a : Addr) (ns : List Int), xs = [.ref a] ∧ SqL K H a (ns.map V.int) ∧ ns.length ≤ 1000 ∧ ∀ (p : Addr) (c : Nat), H p = none → c ≤ ns.length → Q (.ref p) (upd H p (SetO w p (fun j => decide (j ∈ ns)) c))
theorem cr_setI {X : Cx} (hc : X.calm = true) : CallR X (.type "set") (rSetI X.K X.w) := by
  intro pins s σ H xs us Q I r h
  obtain ⟨a, ns, rfl, hs, hz, q⟩ := h
  obtain ⟨its, rv, hl, _⟩ := I.list hs
  rw [Vals.ref1 r]
  refine call_set_lst (P := X.prog) (w := X.w) (I.ok.hd hc) hl.isList (by simpa using rv.ints) (Nat.lt_of_le_of_lt (Nat.succ_le_succ hz) (by decide)) fun h' tk c k1 k2 k3 => ?_
  exact ⟨.ref _, upd H s.heap.objs.size (SetO X.w s.heap.objs.size (fun j => decide (j ∈ ns)) c), I.laid (t' := tk) k3 (Nat.le_refl _) (setO_new k1), rfl, q _ c (I.hok.fresh (Nat.le_refl _)) k2⟩
/-! ### l.extend(t), t a tuple -/
section
open PySem.W
set_option maxRecDepth 8000 in
theorem meets_extT (l : Addr) (items : Array Value) (n : Nat) (b : Addr) (items2 : Array Value) (n2 : Nat) (od : Option Addr) (os : Array (Option Value)) (hs0 : ¬(!items.isEmpty && Builtin.List.listTooLong (items.size + items2.size)) = true) (hs1 : items.size ≤ sizeLine) (hs2 : items.size + items2.size ≤ sizeLine + 1) :
    Meets (Builtin.«list.extend» ⟨[.ref l, .ref b], []⟩) (fun _ R s => s.heap.get? l = some { cls := .type "list", dict := none, data := .seq items n, slots := #[] } ∧ s.heap.get? b = some { cls := .type "tuple", dict := od, data := .seq items2 n2, slots := os } ∧ R (.ok (.ret Value.none)) { s with heap := s.heap.update l (Obj.mapSeq fun x => x ++ items2), toks := s.toks }) :=
  .of_wp fun prog w A R s h => by
    obtain ⟨hp, g, d, tk, os⟩ := s; obtain ⟨hl, hb, h⟩ := h; have f1 := AutoSeq1.idx_int; have f2 := AutoSeq1.sub_tuple_tuple; have f3 := AutoSeq1.sub_list_list; have f4 := AutoSeq1.sub_tuple_list; have f5 := AutoSeq1.sub_list_tuple
    have hz' : (items ++ items2).size ≤ sizeLine + 1 := by rw [Array.size_append]; exact hs2
    wp_walk using (wpAny_updateSeq hl rfl (hz := hs1) (_hz' := hz')), AutoSeq1.wpAny_loadPart' hl, AutoSeq1.wpAny_loadPart' hb; exact ⟨_, rfl, h⟩
end
def rExtT (K : PySem.W.Frag) : V → List V → Hp → VK → Prop := fun x vs H Q => ∃ l b xs zs, x = .ref l ∧ vs = [.ref b] ∧ H l = some (.lst xs) ∧ SqT K H b zs ∧ xs.length + zs.length ≤ sizeLine ∧ Q .non (upd H l (.lst (xs ++ zs)))
theorem mt_extT {X : Cx} : MtM X "list.extend" (rExtT X.K) := by
  intro pins s σ H x vs v us Q I rx rv h
  obtain ⟨l, b, xs, zs, rfl, rfl, hH, hB, hz, q⟩ := h
  cases rx
  obtain ⟨u, rfl, ru⟩ := rv.one
  cases ru
  obtain ⟨z, its, n, r, hl, e⟩ := I.lstM hH
  obtain ⟨its2, r2, ⟨⟨oc, od, ot, os⟩, ho, hc, n2, hd⟩, _⟩ := I.tuple hB
  have hl2 := r2.length
  simp only at hc hd
  subst hc hd
  have hsz : its.toArray.size + its2.toArray.size ≤ sizeLine := by rw [List.size_toArray, List.size_toArray]; omega
  have hlong : ¬ (!its.toArray.isEmpty && Builtin.List.listTooLong (its.toArray.size + its2.toArray.size)) = true := by
    rw [notLongL hsz, Bool.and_false]
    exact Bool.false_ne_true
  refine call_meets F.slot_list_extend ⟨_, e, rfl⟩ F.entry_list_extend (F.args_list_extend_2 _ _) (meets_extT l its.toArray n b its2.toArray n2 _ _ hlong (by omega) (by omega)) ⟨e, ho, ?_⟩
  refine ⟨.non, _, I.lset (its' := its ++ its2) hH e (by simp) (r.append r2) ?_, rfl, q⟩
  rw [List.length_append]
  omega
/-- either rule of a list's method -/
theorem or_mtM {X : Cx} {m : String} {r r' : V → List V → Hp → VK → Prop} (h : MtM X m r) (h' : MtM X m r') : MtM X m (fun x xs H Q => r x xs H Q ∨ r' x xs H Q) := by
  intro pins s σ H x xs v us Q I rx rs q
  rcases q with q | q
  · exact h pins s σ H x xs v us Q I rx rs q
  · exact h' pins s σ H x xs v us Q I rx rs q
def rExtB (K : PySem.W.Frag) : V → List V → Hp → VK → Prop := fun x xs H Q => rExtend x xs H Q ∨ rExtT K x xs H Q
theorem mt_extB {X : Cx} {K : PySem.W.Frag} (hK : X.K = K) : MtM X "list.extend" (rExtB K) := by subst hK; exact or_mtM mt_extend mt_extT
end Ak

set_option maxHeartbeats 4000000
/-! AkEnum: enumerate(t), t a tuple. -/
namespace Ak
open PySem PySem.Spec PySem.W PyProof.Rows L2 TL
theorem meets_enum1 {v : Value} {o : Obj} {G : Heap → Prop} (B : Begins v o G) :
    Meets (Builtin.«enumerate.__new__» ⟨[.type "enumerate", v], []⟩) (fun _ R s => G s.heap ∧
      R (.ok (.ret (.ref (s.heap.push o).objs.size))) { s with heap := (s.heap.push o).push { cls := .type "enumerate", data := .fields #[.none, .bool false, .ref s.heap.objs.size, rawInt 0, .none, .none] } }) :=
  .of_wp fun prog w A R s h => by
    obtain ⟨hp, g, d, tk, os⟩ := s
    obtain ⟨h1, h⟩ := h
    have hsub := sub_enumerate
    have it : ∀ {A' : Around} {E : Value → Shared → Prop} {Q : Value → Shared → Prop}, Q (.ref hp.objs.size) ⟨hp.push o, g, d, tk, os⟩ → wpAny (model prog w) A' (pyIter v) Q E ⟨hp, g, d, tk, os⟩ :=
      fun q => B.iter prog w _ _ ⟨hp, g, d, tk, os⟩ _ h1 q
    wp_walk using it
    refine wpAny_stack_any fun st => wpAny_pure ?_
    split
    · rename_i c _ _ _ _ _
      cases (c == Value.type "enumerate")
      all_goals
        wp_walk using it
        exact ⟨_, rfl, h⟩
    · wp_walk using it
      exact ⟨_, rfl, h⟩
section
variable {prog : Program} {w : World} {A : Around} {E : Value → Shared → Prop} {s : Shared}
theorem enum1_begins {v : Value} {o : Obj} {G : Heap → Prop} {Q : Value → Shared → Prop} (B : Begins v o G) (h1 : G s.heap)
    (h : ∀ h', IsEnum h' (s.heap.objs.size + 1) s.heap.objs.size 0 .none → h'.get? s.heap.objs.size = some o → (∀ b o, s.heap.get? b = some o → h'.get? b = some o) → Q (.ref (s.heap.objs.size + 1)) { s with heap := h' }) :
    wpAny (model prog w) A (call (.type "enumerate") [v]) Q E s := by
  refine callType_new F.called_enumerate (by decide) (F.typeCall_enumerate_1 _) (F.newCall_enumerate_1 _) (fun obj => F.args_object_init_2 obj _) F.entry_enumerate_new (meets_enum1 B) ⟨h1, ?_⟩
  have sz : (s.heap.push o).objs.size = s.heap.objs.size + 1 := Heap.size_push ..
  have he := Heap.get?_push_size (s.heap.push o) (o := { cls := .type "enumerate", data := .fields #[.none, .bool false, .ref s.heap.objs.size, rawInt 0, .none, .none] }) rfl
  show _ ∧ _
  rw [sz] at he ⊢
  exact ⟨⟨_, he, rfl⟩, h _ he (Heap.get?_push_of_some _ (Heap.get?_push_size _ B.free)) fun b o x => Heap.get?_push_of_some _ (Heap.get?_push_of_some _ x)⟩
theorem enum_end_tup {e it t : Addr} {i : Nat} {items : Array Value} {old : Value} {Q : Option Value → Shared → Prop} (hh : A.handled = none) (he : IsEnum s.heap e it i old) (hit : s.heap.IsTupleIter it t i) (ht : s.heap.IsTuple t items) (hx : items[i]? = none)
    (hQ : ∀ h', Heap.ExtBut it s.heap h' → Q none { s with heap := h' }) : wpAny (model prog w) A (pyNext (.ref e)) Q E s := by
  have hT : s.TypeIs (.ref e) "enumerate" := ⟨_, he, rfl⟩
  unfold pyNext
  refine wpAny_bind (wpAny_attempt (wpAny_callSpecial?_slot (name := Str.ofString "__next__") hT F.slot_enumerate_next (wpAny_call_entry F.slot_enumerate_next hT F.entry_enumerate_next ?_ (F.args_enumerate_next_1 _))))
  show wpAny _ _ (field (.ref e) 2 >>= _) _ _ _
  refine wpAny_bind (wpAny_field he rfl (x := .ref it) rfl (wpAny_bind (wpAny_nextOf_tuple_end (by simp [hh]) hit ht hx fun h' x he' hx' => ?_)))
  obtain ⟨o, ho, hc⟩ := hx'
  exact wpAny_bind (wpAny_isInstance (T := "StopIteration") (b := true) ⟨o, ho, hc⟩ isSubtype_stop (wpAny_pure (hQ _ he')))
end
/-- the tuple at a as it stands at each turn, each item in a new pair -/
def IteT (K : PySem.W.Frag) (a : Addr) : It :=
  ⟨fun i H => ∃ (xs : List V) (x : V), SqT K H a xs ∧ xs[i]? = some x, fun i H v H' => ∃ T x, v = .ref T ∧ H T = none ∧ H' = upd H T (.tup [.int (i : Nat), x]) ∧ ∀ xs, SqT K H a xs → xs[i]? = some x, fun i H => ∃ xs : List V, SqT K H a xs ∧ xs.length ≤ i⟩
theorem turn_enumT {P : Program} {w : World} {K : PySem.W.Frag} {elts : List Expr} {kk : Nat} {tpos : Pos} (a e it : Addr) :
    L2.Turn P w K (.Tuple elts kk tpos) (IteT K a) [e, it] e (fun i h => (∃ old, IsEnum h e it ((i : Nat) : Int) old) ∧ h.IsTupleIter it a i ∧ e ≠ it ∧ a ≠ it) where
  mem := by simp
  obj := fun i h ⟨⟨_, he⟩, ⟨o, ho, _, hd⟩, _⟩ b hb => by
    rcases (by simpa using hb : b = e ∨ b = it) with rfl | rfl
    · exact ⟨_, he, fun v q => nomatch q⟩
    · exact ⟨o, ho, fun v q => by rw [hd] at q; cases q⟩
  keep := fun i h h' ⟨⟨old, he⟩, hi, n1, n2⟩ k => ⟨⟨old, k e (by simp) _ he⟩, hi.at fun o q => k it (by simp) o q, n1, n2⟩
  item := by
    intro X hP hw hK hc i pins s σ H E I hf st hg
    subst hP hw hK
    obtain ⟨⟨old, he⟩, hit, n1, n2⟩ := st
    obtain ⟨xs, x, hq, hx⟩ := hg
    obtain ⟨its, rv, p, hz⟩ := I.tuple hq
    obtain ⟨u, hu, ru⟩ := rv.get hx
    have le : e < s.heap.objs.size := Heap.lt_size he
    have li : it < s.heap.objs.size := by obtain ⟨_, q, _⟩ := hit; exact Heap.lt_size q
    have tup : s.heap.IsTuple a its.toArray := p
    have hi : i < its.toArray.size := by
      rw [List.size_toArray]
      exact (List.getElem?_eq_some_iff.mp hu).1
    have ea : e ≠ a := fun z => by
      obtain ⟨o, h1, h2, _⟩ := p
      rw [← z, he] at h1
      cases h1
      exact absurd (show Value.type "enumerate" = Value.type "tuple" from h2) (by decide)
    refine wpAny_pyNext_enum_itemD (Draws.tuple (show X.A.in1.handled = none by simp [I.ok.hd hc]) it a n2 its.toArray) he ⟨hit, tup⟩ hi n1 (by simp [n1, ea]) fun x' h' tk hx' ho' hst' hT hsz hk => ?_
    have ex : x' = u := by
      have q : its.toArray[i]? = some x' := hx'
      rw [List.getElem?_toArray, hu] at q
      exact (Option.some.inj q).symm
    subst ex
    refine ⟨_, rfl, wpAny_letOwnedTupleGo_enum (s := { s with heap := h', toks := tk + 1 }) ho' fun h'' he' sb => ?_⟩
    have hT2 : h''.get? s.heap.objs.size = some { cls := .type "tuple", data := .seq #[.int i tk, x'] } := (sb.2 _ (Nat.ne_of_gt le)).trans hT
    have new : ObjOk X.prog X.w (upd H s.heap.objs.size (.tup [.int (i : Nat), x])) h'' s.heap.objs.size (.tup [.int (i : Nat), x]) :=
      ⟨by show 2 ≤ sizeLine; decide, [.int i tk, x'], .cons ⟨_, rfl⟩ (.cons ru .nil), ⟨_, hT2, rfl, _, rfl⟩⟩
    have I1 : Inv X pins σ (upd H s.heap.objs.size (.tup [.int (i : Nat), x])) { s with heap := h'', toks := tk + 1 } :=
      I.turnedNew (ch := [e, it]) (fun b ob hb q => (sb.2 b (fun z => hb (by simp [z]))).trans (hk b ob (fun z => hb (by simp [z])) (fun z => hb (by simp [z])) q)) hf (Nat.le_refl _) new
    refine ⟨.ref s.heap.objs.size, _, I1, rfl, ⟨_, x, rfl, I.hok.fresh (Nat.le_refl _), rfl, fun ys hy => by rw [I.tuple_inj hy hq]; exact hx⟩, ⟨⟨x', ?_⟩, hst'.1.at fun o q => (sb.2 it (Ne.symm n1)).trans q, n1, n2⟩, fun b hb => ?_⟩
    · have e1 : ((i + 1 : Nat) : Int) = (i : Int) + 1 := by omega
      rw [e1]
      exact he'
    · have hb' : b < s.heap.objs.size := by
        rcases (by simpa using hb : b = e ∨ b = it) with rfl | rfl
        · exact le
        · exact li
      rw [upd_ne (Nat.ne_of_lt hb')]
      exact (hf b hb).1
  done := by
    intro X hP hw hK hc i pins s σ H E I hf st hg
    subst hP hw hK
    obtain ⟨⟨old, he⟩, hit, n1, n2⟩ := st
    obtain ⟨xs, hq, hx⟩ := hg
    obtain ⟨its, rv, p, hz⟩ := I.tuple hq
    obtain ⟨f0, f1, f2, f3, f4, f5⟩ := hf it (by simp)
    have hl := rv.length
    exact enum_end_tup (I.ok.hd hc) he hit (show s.heap.IsTuple a its.toArray from p) (by simp; omega) fun h' eb => ⟨rfl, I.turned (t' := s.toks) (fun b o hb q => eb b o hb q) f0 f1 f3 f4 f5⟩
  self := fun A i s Q E ⟨⟨_, he⟩, _⟩ h => wpAny_pyIter_enum he h
def iEnumT (K : PySem.W.Frag) (ta : TA) : TI := fun σ H R => ta σ H fun vs H1 => ∃ a xs, vs = [.ref a] ∧ SqT K H1 a xs ∧ R (IteT K a) H1
theorem pi_enumT {X : Cx} {K : PySem.W.Frag} {e : Expr} {ta : TA} {p pos tpos : Pos} {elts : List Expr} {kk : Nat} (hK : X.K = K) (hg : Gl X "enumerate") (hm : X.mg "enumerate" = none) (ha : PA X [e] ta) (hs : starEach [e] X.env = [(false, eval e X.env)] := by rfl) :
    PI X (.Tuple elts kk tpos) (.Call (.Name "enumerate" p) [e] [] pos) (iEnumT K ta) := by
  subst hK
  refine ⟨fun pins s σ H R I h => ?_⟩
  refine Call_ (ld_blt I hg hm boot_enumerate (PyProof.Rows.callWith_type1 (thn (ha.run pos pins s σ H _ I h) fun us s1 ⟨vs, H1, I1, r1, q1⟩ => ?_) hs rfl))
  obtain ⟨a, xs, ex, hq, q⟩ := q1
  subst ex
  rw [Vals.ref1 r1]
  obtain ⟨its, rv, p', hz⟩ := I1.tuple hq
  have al : a < s1.heap.objs.size := by obtain ⟨o, h1, _⟩ := p'; exact Heap.lt_size h1
  refine enum1_begins (begins_tuple a its.toArray) (show s1.heap.IsTuple a its.toArray from p') fun h' he hit hk => wpAny_pyIter_enum he ?_
  have I2 : Inv X pins σ H1 { s1 with heap := h' } := I1.kept (t' := s1.toks) hk
  refine ⟨s1.heap.objs.size + 1, [s1.heap.objs.size + 1, s1.heap.objs.size], _, _, H1, rfl, I2, turn_enumT a (s1.heap.objs.size + 1) s1.heap.objs.size, ⟨⟨.none, he⟩, ⟨_, hit, rfl, rfl⟩, Nat.succ_ne_self _, Nat.ne_of_lt al⟩, fun b hb => ?_, q⟩
  have hle : s1.heap.objs.size ≤ b := by
    rcases (by simpa using hb : b = s1.heap.objs.size + 1 ∨ b = s1.heap.objs.size) with z | z
    · rw [z]; exact Nat.le_add_right _ _
    · rw [z]; exact Nat.le_refl _
  exact I1.fpOk hle (I1.hok.fresh hle)
theorem walk_enumT {K : PySem.W.Frag} {a : Addr} {xs : List V} : Walk (IteT K a) xs.length (fun H => SqT K H a xs) (YPair (fun i => some (.int (i : Nat))) (fun i => xs[i]?)) := by
  refine ⟨fun i _ hi q => ⟨xs, xs[i], q, by simp [hi]⟩, fun _ q => ⟨xs, q, Nat.le_refl _⟩, fun i H v H' _ q y => ?_⟩
  obtain ⟨T, x, h1, h2, h3, h4⟩ := y
  exact ⟨T, .int (i : Nat), x, h1, h2, h3, rfl, h4 xs q⟩
end Ak

set_option maxHeartbeats 4000000
/-! AkSortD: sorted(d), the keys of d whole numbers. -/
namespace Ak
open PySem PySem.Spec PySem.W PyProof.Rows L2 TL
section
variable {prog : Program} {w : World} {A : Around} {E : Value → Shared → Prop} {s : Shared} {T : String} {r d : Addr} {n : Nat} {Pv : Nat → Value → Prop} {OK : Heap → Prop}
theorem collect_src {Q : List Value → Shared → Prop} (K : KdlSrc prog w T r d n Pv OK) (hh : A.handled = none) (hok : OK s.heap) (hn : n ≤ sizeLine)
    (h : ∀ (h' : Heap) (tk : Nat) (acc : Array Value), (∀ b o, s.heap.get? b = some o → h'.get? b = some o) → s.heap.objs.size < h'.objs.size → ItemsOf Pv acc n → Q acc.toList { s with heap := h', toks := tk }) :
    wpAny (model prog w) A (collect (.ref r)) Q E s := by
  have new : (s.heap.push { cls := .type "list", data := .seq ([] : List Value).toArray }).get? s.heap.objs.size = some { cls := .type "list", data := .seq #[] } := Heap.get?_push_size _ rfl
  have lt := K.there _ hok
  unfold collect
  refine wpAny_bind (wpAny_runValue (codeAny_builtin entry_proto_collect' ?_))
  rw [Around.under_plainId PySem.F.plain_proto_collect _]
  show wpAny _ A.in1 (newList [] >>= fun l => again (.builtin "list.__iadd__" ⟨[l, .ref r], []⟩)) _ _ s
  refine wpAny_bind (wpAny_newObj_type (wpAny_pure ⟨plainId_quiet PySem.F.plain_list_iadd _, codeAny_builtin entry_list_iadd' ?_⟩))
  rw [Around.under_plainId PySem.F.plain_list_iadd _]
  show wpAny _ A.in1 (Builtin.List.listExtendWith (.ref s.heap.objs.size) (.ref r) (.ref s.heap.objs.size)) _ _ _
  have fin : ∀ (q : Result) (s' : Shared), (∃ (h' : Heap) (tk : Nat) (acc : Array Value) (c : Nat), q = .ok (.ret (.ref s.heap.objs.size)) ∧ s' = { s with heap := h', toks := tk } ∧ (∀ b o, s.heap.get? b = some o → h'.get? b = some o) ∧
      h'.get? s.heap.objs.size = some { cls := .type "list", dict := none, data := .seq acc c, slots := #[] } ∧ ItemsOf Pv acc n) → q = .ok (.ret (.ref s.heap.objs.size)) ∧ wpAny (model prog w) A (load s.heap.objs.size >>= fun o => match o.data with | .seq xs _ => pure xs.toList | _ => unsupported "internal:collect") Q E s' := by
    rintro q s' ⟨h', tk, acc, c, rfl, rfl, k1, k2, k3⟩
    exact ⟨rfl, wpAny_bind (wpAny_load k2 (wpAny_pure (h h' tk acc k1 (Heap.lt_size k2) k3)))⟩
  have key := kdl_extend (A := A) (s := { s with heap := s.heap.push { cls := .type "list", data := .seq ([] : List Value).toArray } }) (R := fun q s' => ∃ (h' : Heap) (tk : Nat) (acc : Array Value) (c : Nat), q = .ok (.ret (.ref s.heap.objs.size)) ∧ s' = { s with heap := h', toks := tk } ∧ (∀ b o, s.heap.get? b = some o → h'.get? b = some o) ∧
      h'.get? s.heap.objs.size = some { cls := .type "list", dict := none, data := .seq acc c, slots := #[] } ∧ ItemsOf Pv acc n) K hh (K.keep _ _ hok fun b _ o e => Heap.get?_push_of_some _ e) s.heap.objs.size (Nat.ne_of_gt lt.1) (Nat.ne_of_gt lt.2) (.ref s.heap.objs.size) 0 new
    (fun h' tk acc c k1 k2 k3 => ⟨h', tk, acc, c, rfl, rfl, fun b o e => k1 b o (Nat.ne_of_lt (Heap.lt_size e)) (Heap.get?_push_of_some _ e), k2, k3⟩) hn
  refine wpAny_mono key (fun f s' x => ?_) fun e s' x => ?_
  · cases f with
    | done f =>
      obtain ⟨e, q⟩ := fin _ _ x
      cases e
      exact q
    | again c₁ =>
      refine ⟨x.1, codeAny_mono x.2 fun q s₂ y => ?_⟩
      obtain ⟨e, q'⟩ := fin _ _ y
      subst e
      exact q'
  · obtain ⟨_, _, _, _, e', _⟩ := x
    cases e'
theorem sorted_src {ns : List Int} {Q : Value → Shared → Prop} (K : KdlSrc prog w T r d n Pv OK) (hh : A.handled = none) (hok : OK s.heap) (hn : n ≤ sizeLine) (hi : ∀ acc : Array Value, ItemsOf Pv acc n → IntsAre acc.toList ns)
    (h : ∀ (h' : Heap) (tk p ep : Nat) (out : Array Value) (ns' : List Int), IntsAre out.toList ns' → ns'.Perm ns → ns'.Pairwise (· ≤ ·) → (∀ b o, s.heap.get? b = some o → h'.get? b = some o) → s.heap.objs.size ≤ p →
      h'.get? p = some (seqObj "list" out ep) → Q (.ref p) { s with heap := h', toks := tk }) :
    wpAny (model prog w) A (call (.builtin "sorted") [.ref r]) Q E s := by
  refine Calls.call_function_entry kind_sorted plain_sorted entry_sorted (args_sorted1 _) ?_
  unfold Builtin.«sorted»
  refine wpAny_bind (m := checkCount "sorted" 1 1 _) (wpAny_pure (wpAny_bind (collect_src K (by simp [hh]) hok hn fun h' tk acc k1 k2 k3 => ?_)))
  have hI := hi acc k3
  have len : acc.toList.length ≤ sizeLine := by rw [Array.length_toList, k3.1]; exact hn
  refine wpAny_bind (wpAny_newList ?_ len)
  have new : (h'.push (seqObj "list" acc.toList.toArray 0)).get? h'.objs.size = some (seqObj "list" acc.toList.toArray 0) := Heap.get?_push_size _ rfl
  show wpAny _ _ _ _ _ { s with heap := h'.push (seqObj "list" acc.toList.toArray 0), toks := tk }
  refine wpAny_bind (wpAny_holding (wpAny_call_entry slot_list_sort ⟨_, new, rfl⟩ entry_list_sort (list_sort_treeAny new hI len fun out ns' a1 a2 a3 => ⟨_, rfl, ?_⟩) (args_list_sort _)))
  refine wpAny_pure ⟨_, rfl, ?_⟩
  obtain ⟨ep, he⟩ := sortedHeap_at (n := 0) (out := out) new
  refine h _ tk _ ep out ns' a1 a2 a3 (fun b o e => ?_) (Nat.le_of_lt k2) he
  have hb : b < h'.objs.size := Heap.lt_size (k1 b o e)
  show (sortedHeap (h'.push (seqObj "list" acc.toList.toArray 0)) h'.objs.size acc.toList out).get? b = some o
  rw [sortedHeap_old (Nat.ne_of_lt hb) (by rw [size_push']; exact Nat.lt_succ_of_lt hb), Heap.get?_push_ne _ _ _ (Nat.ne_of_lt hb)]
  exact k1 b o e
end
/-- sorted(d), d's keys whole numbers -/
def rSortedDI : List V → Hp → VK → Prop := fun xs H Q => ∃ (p : Addr) (kvs : List (Key × V)) (ns : List Int), xs = [.ref p] ∧ H p = some (.dK kvs) ∧ kvs.map (·.1) = ns.map Sum.inl ∧
  ∀ (ns' : List Int) (q : Addr), ns'.Perm ns → ns'.Pairwise (· ≤ ·) → H q = none → Q (.ref q) (upd H q (.lst (ns'.map V.int)))
theorem cr_sortedDI {X : Cx} (hc : X.calm = true) : CallR X (.builtin "sorted") rSortedDI := by
  intro pins s σ H xs us Q I r h
  obtain ⟨p, kvs, ns, rfl, hk, hkeys, q⟩ := h
  rw [Vals.ref1 r]
  obtain ⟨z, lo, vs, rk, hd⟩ := (show ObjOk X.prog X.w H s.heap p (.dK kvs) from I.hok p _ hk)
  obtain ⟨ep, hat⟩ := hd.dictAt
  have hl : kvs.length = vs.length := Paired.length rk
  have hln : ns.length = vs.length := by
    have e := congrArg List.length hkeys
    rw [List.length_map, List.length_map] at e
    omega
  have hI0 : ∀ acc : Array Value, ItemsOf (fun i v => ∃ k y, vs[i]? = some (k, y) ∧ (mixKind X.prog X.w).is k v = true) acc vs.length → IntsAre acc.toList ns := fun acc hacc => by
    have el : acc.toList.length = acc.size := by simp
    refine Vals.ints (vals_of_at (by rw [List.length_map, el, hacc.1, hln]) fun j x w h1 h2 => ?_)
    obtain ⟨k, y, hky, hi⟩ := hacc.2 j w (by rw [← Array.getElem?_toList]; exact h2)
    have e1 : (ns.map (Sum.inl (β := Str)))[j]? = some k := by
      rw [← hkeys, KV.keys rk, List.getElem?_map, hky]
      rfl
    rw [List.getElem?_map] at e1 h1
    cases e : ns[j]? with
    | none => rw [e] at h1; cases h1
    | some n =>
      rw [e] at h1 e1
      cases h1
      cases e1
      exact (keyIs_rel (k := Sum.inl n) hi : RelV (kV (Sum.inl n)) w)
  refine sorted_src (kdl_dict (knd := mixKind X.prog X.w) (kvs := vs) (ep := ep) lo) (I.ok.hd hc) hat (by rw [← hl]; exact z) hI0 fun h' tk b ep' out ns' a1 a2 a3 k1 k2 k3 => ?_
  have hlen : (ns'.map V.int).length ≤ sizeLine := by rw [List.length_map, a2.length_eq, hln, ← hl]; exact z
  exact ⟨.ref b, upd H b (.lst (ns'.map V.int)), I.laid (t' := tk) k1 k2 ⟨hlen, out.toList, ep', vals_of_ints a1, k3⟩, rfl, q ns' b a2 a3 (I.hok.fresh k2)⟩
end Ak

set_option maxHeartbeats 4000000
/-! AkShow: repr of a value of any kind. -/
namespace Ak
open PySem PySem.Spec PyProof.Rows L2 TL
mutual
/-- no list within -/
def noLst : PyData → Bool
  | .list _ => false
  | .tuple ds => noLstAll ds
  | _ => true
def noLstAll : List PyData → Bool
  | [] => true
  | d :: ds => noLst d && noLstAll ds
end
section
variable {X : Cx} {pins : List (Addr × Obj)} {σ : L2.St} {H : Hp} {A : Addr → Prop} {s : Shared}
theorem dct_reads {a : Addr} (I : Inv X pins σ H s) (h : H a = some (.dK [])) : Reads s.heap (.ref a) (.dict []) [a] ∧ a ≠ sysModules := by
  obtain ⟨_, lo, vs, rk, o, es, ep, ho, hx, hd, _, hp, _⟩ := (show ObjOk X.prog X.w H s.heap a (.dK []) from I.hok a _ h)
  cases rk
  have he : es.toList = [] := by
    generalize es.toList = l at hp
    cases hp
    rfl
  have r : Reads s.heap (.ref a) (.dict []) (a :: ([] : List Addr) ++ []) := .dict (kvs := []) ho hx.1 hd (by rw [he]; exact .nil) (by rw [he]; exact .nil)
  exact ⟨r, beq_eq_false_iff_ne.mp lo⟩
mutual
theorem Dv.reads (I : Inv X pins σ H s) : ∀ (d : PyData) (v : V) (u : Value), Dv H A v d → RelV v u → ∃ as, Reads s.heap u d as ∧ (noLst d = true → sysModules ∉ as)
  | .none, _, _, h, r => by
    cases h
    cases r
    exact ⟨_, Reads.none, fun _ => by simp⟩
  | .bool b, _, _, h, r => by
    cases h
    cases r
    exact ⟨_, Reads.bool b, fun _ => by simp⟩
  | .int i, _, _, h, r => by
    cases h
    obtain ⟨t, rfl⟩ := r
    exact ⟨_, Reads.int i t, fun _ => by simp⟩
  | .str x, _, _, h, r => by
    cases h
    obtain ⟨t, rfl⟩ := r
    exact ⟨_, Reads.str x t, fun _ => by simp⟩
  | .list ds, _, _, h, r => by
    cases h with
    | lst _ hs ha =>
      cases r
      obtain ⟨its, rv, ⟨o, n, ho, hc, _, hd⟩, _⟩ := I.list (SqL.of hs)
      obtain ⟨as, hr, _⟩ := Dv.readsAll I ds _ its ha rv
      exact ⟨_, Reads.list ho hc hd hr, fun z => by simp [noLst] at z⟩
  | .tuple ds, _, _, h, r => by
    cases h with
    | tupq _ hs ha =>
      cases r
      obtain ⟨its, rv, ⟨o, ho, hc, n, hd⟩, _⟩ := I.tuple hs.sq
      obtain ⟨as, hr, no⟩ := Dv.readsAll I ds _ its ha rv
      exact ⟨_, Reads.tuple ho hc hd hr, fun z => no (by simpa [noLst] using z)⟩
  | .dict _, _, _, h, r => by
    cases h with
    | dct _ hs =>
      cases r
      obtain ⟨q, ne⟩ := dct_reads I hs
      exact ⟨_, q, fun _ => by simp only [List.mem_singleton]; exact Ne.symm ne⟩
theorem Dv.readsAll (I : Inv X pins σ H s) : ∀ (ds : List PyData) (vs : List V) (us : List Value), DvAll H A vs ds → Vals vs us → ∃ as, ReadsAll s.heap us ds as ∧ (noLstAll ds = true → sysModules ∉ as)
  | [], _, _, h, r => by
    cases h
    cases r
    exact ⟨_, ReadsAll.nil, fun _ => by simp⟩
  | d :: ds, _, _, h, r => by
    cases h with
    | cons h1 h2 =>
      cases r with
      | cons r1 r2 =>
        obtain ⟨as, q1, n1⟩ := Dv.reads I d _ _ h1 r1
        obtain ⟨bs, q2, n2⟩ := Dv.readsAll I ds _ _ h2 r2
        refine ⟨_, ReadsAll.cons q1 q2, fun z => ?_⟩
        simp only [noLstAll, Bool.and_eq_true] at z
        rw [List.mem_append]
        rintro (w | w)
        · exact n1 z.1 w
        · exact n2 z.2 w
end
end
/-- repr of a value known -/
def rReprV : List V → Hp → VK → Prop := fun xs H Q => ∃ (A : Addr → Prop) (v : V) (d : PyData), xs = [v] ∧ Dv H A v d ∧ d.showable = true ∧ (d.hasDict = true → noLst d = true) ∧ d.depth ≤ 40 ∧ d.shown.length ≤ sizeLine ∧ Q (.str d.shown) H
theorem call_reprV {X : Cx} (hg : X.A.guards = some []) (hu : X.A.units + 64 < cLine) : CallR X (.builtin "repr") rReprV := by
  intro pins s σ H xs us Q I r h
  obtain ⟨A, v, d, rfl, hd, hs, hn, hp, hz, q⟩ := h
  obtain ⟨u, rfl, ru⟩ := vals1 r
  obtain ⟨as, R, no⟩ := Dv.reads I d v u hd ru
  have fin : ∀ (h' : Heap) (t : Tok) (tk : Nat), (∀ b o, s.heap.get? b = some o → h'.get? b = some o) → EP X pins σ Q (.str d.shown t) { s with heap := h', toks := tk } := fun h' t tk hk =>
    ⟨.str d.shown, H, I.kept (t' := tk) hk, ⟨t, rfl⟩, q⟩
  cases hd with
  | non =>
    obtain rfl : u = Value.none := ru
    exact PySem.P.repr_of_none (fin s.heap _ _ fun _ _ e => e)
  | bl b =>
    obtain rfl : u = Value.bool b := ru
    exact PySem.P.repr_of_bool (fin s.heap _ _ fun _ _ e => e)
  | int i =>
    obtain ⟨t, rfl⟩ := ru
    have hi : i.natAbs.log2 < 1920 := by simpa [PyData.showable] using hs
    exact PySem.P.repr_of_int hi (fin s.heap _ _ fun _ _ e => e)
  | str y =>
    obtain ⟨t, rfl⟩ := ru
    exact PySem.P.repr_of_str (fin s.heap _ _ fun _ _ e => e)
  | lst _ h1 h2 =>
    obtain rfl : u = Value.ref _ := ru
    exact repr_of_reads' R hs (fun z => no (hn z)) hg (by omega) (fun _ _ e => e) (fun h' t tk hk => fin h' t tk hk) hz
  | tupq _ h1 h2 =>
    obtain rfl : u = Value.ref _ := ru
    exact repr_of_reads' R hs (fun z => no (hn z)) hg (by omega) (fun _ _ e => e) (fun h' t tk hk => fin h' t tk hk) hz
  | dct _ h1 =>
    obtain rfl : u = Value.ref _ := ru
    exact repr_of_reads' R hs (fun z => no (hn z)) hg (by omega) (fun _ _ e => e) (fun h' t tk hk => fin h' t tk hk) hz
end Ak

set_option maxHeartbeats 4000000
/-! AkOps: operators and built-ins by whatever they are asked of. -/
namespace Ak
open PySem PySem.Spec PyProof.Rows L2 TL
def rInDT (K : PySem.W.Frag) : R2 := fun x y H Q => ∃ d ds, Dp K H x d ∧ Dp K H y (.tuple ds) ∧ SeqAt.shaped d = true ∧ SeqAt.shaped (.tuple ds) = true ∧ Q (.bl (ds.any fun z => PyData.eqv z d)) H
section
variable {X : Cx}
theorem op_inDT (hu : X.A.units + 64 < cLine) : OpR X (compareOp .In) (rInDT X.K) := by
  intro pins s σ H x y v u Q I rx ry h
  obtain ⟨d, ds, hd, he, sd, se, q⟩ := h
  obtain ⟨as, r1⟩ := Dp.reads I d x v hd rx
  obtain ⟨bs, r2⟩ := Dp.reads I (.tuple ds) y u he ry
  have hl : PyData.depthAll ds ≤ 63 := by
    unfold SeqAt.shaped at se
    rw [Bool.and_eq_true, decide_eq_true_eq] at se
    have := se.2
    simp only [PyData.depth] at this
    omega
  refine SeqAt.in_tuple_reads r2 r1 ?_ (SeqAt.canLay_of_shaped sd) ?_ ⟨.bl _, H, I, rfl, q⟩
  · have := SeqAt.canLay_of_shaped se
    simpa [PyData.canLay0] using this
  · have := Nat.min_le_left (PyData.depthAll ds) d.depth
    omega
def rEqB (K : PySem.W.Frag) : R2 := fun x y H Q => rEqA K x y H Q ∨ rEqE K x y H Q
def rNeB (K : PySem.W.Frag) : R2 := fun x y H Q => rNeA K x y H Q ∨ rNeE K x y H Q
def rInB (K : PySem.W.Frag) : R2 := fun x y H Q => rInA K x y H Q ∨ rInDT K x y H Q
def rAddB (K : PySem.W.Frag) : R2 := fun x y H Q => rAddA K x y H Q ∨ rCatA K x y H Q
def rSlB (K : PySem.W.Frag) : V → Option Int → Option Int → Hp → VK → Prop := fun x lo hi H Q => rSlL K x lo hi H Q ∨ rSlS x lo hi H Q ∨ rSlA K x lo hi H Q
theorem opEqB {K : PySem.W.Frag} (hK : X.K = K) (hu : X.A.units + 64 < cLine) : OpR X (compareOp .Eq) (rEqB K) := hK ▸ or_op (opEq rfl hu) (op_eqE hu)
theorem opNeB {K : PySem.W.Frag} (hK : X.K = K) (hu : X.A.units + 64 < cLine) : OpR X (compareOp .NotEq) (rNeB K) := hK ▸ or_op (opNe rfl hu) (op_neE hu)
theorem opInB {K : PySem.W.Frag} (hK : X.K = K) (hu : X.A.units + 64 < cLine) : OpR X (compareOp .In) (rInB K) := hK ▸ or_op (opIn rfl) (op_inDT hu)
theorem opAddB {K : PySem.W.Frag} (hK : X.K = K) : OpR X (binaryOp .Add) (rAddB K) := hK ▸ or_op (opAdd rfl) op_catA
theorem slB {K : PySem.W.Frag} (hK : X.K = K) : SlR X (rSlB K) := hK ▸ sl_list.or (sl_str.or sl_tupA)
theorem or_call {f : Value} {r r' : List V → Hp → VK → Prop} (h : CallR X f r) (h' : CallR X f r') : CallR X f (fun xs H Q => r xs H Q ∨ r' xs H Q) := by
  intro pins s σ H xs us Q I rs q
  rcases q with q | q
  · exact h pins s σ H xs us Q I rs q
  · exact h' pins s σ H xs us Q I rs q
/-- sorted(x): a list or a tuple of texts, a set of ints, a dict with ints for keys -/
def rSortB (K : PySem.W.Frag) (w : World) : List V → Hp → VK → Prop := fun xs H Q => rSortedS K xs H Q ∨ rSortedTS K xs H Q ∨ rSortedSet w xs H Q ∨ rSortedDI xs H Q
theorem caSorted {K : PySem.W.Frag} {w : World} (hK : X.K = K) (hw : X.w = w) (hc : X.calm = true) : CallR X (.builtin "sorted") (rSortB K w) := by
  subst hK hw
  exact or_call cr_sortedS (or_call cr_sortedTS (or_call (cr_sortedSet hc) (cr_sortedDI hc)))
def rTupOf (K : PySem.W.Frag) : List V → Hp → VK → Prop := fun xs H Q => ∃ p ys, xs = [.ref p] ∧ ((SqL K H p ys ∧ ∀ l, H l = none → Q (.ref l) (upd H l (.tup ys))) ∨ (SqT K H p ys ∧ Q (.ref p) H))
theorem caTuple {K : PySem.W.Frag} (hK : X.K = K) : CallR X (.type "tuple") (rTupOf K) := by subst hK; exact call_tuple_of
theorem caSet {K : PySem.W.Frag} {w : World} (hK : X.K = K) (hw : X.w = w) (hc : X.calm = true) : CallR X (.type "set") (rSetI K w) := by subst hK hw; exact cr_setI hc
/-- isinstance(x, T) or isinstance(x, (T, ..)) -/
def rIsB (K : PySem.W.Frag) : List V → Hp → VK → Prop := fun xs H Q => rIsi K xs H Q ∨ rIsiT K xs H Q
theorem caIsB {K : PySem.W.Frag} (hK : X.K = K) : CallR X (.builtin "isinstance") (rIsB K) := by subst hK; exact or_call call_isi call_isiT
end
/-! ### readings of these -/
section
variable {K : PySem.W.Frag} {w : World} {H : Hp} {A : Addr → Prop} {Q : VK}
theorem b_eq_int {i j : Int} (q : Q (.bl (decide (i = j))) H) : rEqB K (.int i) (.int j) H Q := .inl (q_eq_int q)
theorem b_ne_int {i j : Int} (q : Q (.bl (!decide (i = j))) H) : rNeB K (.int i) (.int j) H Q := .inl (q_ne_int q)
theorem b_eq_tx {a b : List Nat} (q : Q (.bl (decide (a = b))) H) : rEqB K (.str (tx a)) (.str (tx b)) H Q := .inl (q_eq_tx q)
theorem b_ne_tx {a b : List Nat} (q : Q (.bl (!decide (a = b))) H) : rNeB K (.str (tx a)) (.str (tx b)) H Q := .inl (q_ne_tx q)
theorem b_in_sg {c : Nat} {l : List Nat} (q : Q (.bl (decide (c ∈ l))) H) : rInB K (sg c) (.str (tx l)) H Q := .inl (q_in_sg q)
theorem b_add_int {i j : Int} (q : Q (.int (i + j)) H) : rAddB K (.int i) (.int j) H Q := .inl (q_add_int q)
theorem b_add_tx {a b : List Nat} (hz : a.length + b.length ≤ 1000000) (q : Q (.str (tx (a ++ b))) H) : rAddB K (.str (tx a)) (.str (tx b)) H Q := .inl (q_add_tx hz q)
theorem b_add_lst {a b : Addr} {xs ys : List V} (ha : H a = some (.lst xs)) (hb : H b = some (.lst ys)) (hz : xs.length + ys.length ≤ 10000000) (q : ∀ p, H p = none → Q (.ref p) (upd H p (.lst (xs ++ ys)))) : rAddB K (.ref a) (.ref b) H Q := .inl (q_add_lst ha hb hz q)
theorem b_add_tup {a b : Addr} {xs ys : List V} (ha : SqT K H a xs) (hb : SqT K H b ys) (hz : xs.length + ys.length ≤ 1000000) (q0 : xs = [] → Q (.ref b) H) (q1 : xs ≠ [] → ys = [] → Q (.ref a) H) (q2 : xs ≠ [] → ys ≠ [] → ∀ p, H p = none → Q (.ref p) (upd H p (.tup (xs ++ ys)))) : rAddB K (.ref a) (.ref b) H Q :=
  .inr ⟨a, b, xs, ys, rfl, rfl, ha, hb, Nat.le_trans hz (by decide), q0, q1, q2⟩
theorem b_eqE_tup {a b : Addr} {xs : List V} (ha : SqT K H a xs) (hb : H b = some (.tup [])) (q : Q (.bl xs.isEmpty) H) : rEqB K (.ref a) (.ref b) H Q := .inr ⟨a, b, xs, rfl, rfl, .inr ⟨ha, SqT.of hb⟩, q⟩
theorem b_eqE_lst {a b : Addr} {xs : List V} (ha : SqL K H a xs) (hb : H b = some (.lst [])) (q : Q (.bl xs.isEmpty) H) : rEqB K (.ref a) (.ref b) H Q := .inr ⟨a, b, xs, rfl, rfl, .inl ⟨ha, SqL.of hb⟩, q⟩
theorem b_neE_lst {a b : Addr} {xs : List V} (ha : SqL K H a xs) (hb : H b = some (.lst [])) (q : Q (.bl (!xs.isEmpty)) H) : rNeB K (.ref a) (.ref b) H Q := .inr ⟨a, b, xs, rfl, rfl, ha, SqL.of hb, q⟩
theorem b_in_txs {l : List Nat} {p : Addr} {ys : List (List Nat)} (hp : SqL K H p (ys.map fun y => V.str (tx y)) ∨ SqT K H p (ys.map fun y => V.str (tx y))) (q : Q (.bl (ys.contains l)) H) : rInB K (.str (tx l)) (.ref p) H Q := .inl (q_in_txs hp q)
theorem b_eq_str {a : Str} (q : Q (.bl true) H) : rEqB K (.str a) (.str a) H Q := by
  have := b_eq_tx (K := K) (H := H) (Q := Q) (a := tl a) (b := tl a) (by rw [decide_eq_true rfl]; exact q)
  rwa [tx_tl] at this
theorem b_ne_str {a : Str} (q : Q (.bl false) H) : rNeB K (.str a) (.str a) H Q := by
  have := b_ne_tx (K := K) (H := H) (Q := Q) (a := tl a) (b := tl a) (by rw [decide_eq_true rfl]; exact q)
  rwa [tx_tl] at this
variable {v : V} {d : PyData}
theorem b_isTup (h : Dv H A v d) (q : Q (.bl (isTup d)) H) : rIsB K [v, .ty "tuple"] H Q := .inl (q_isTup h q)
theorem b_isLst (h : Dv H A v d) (q : Q (.bl (isLst d)) H) : rIsB K [v, .ty "list"] H Q := .inl (q_isLst h q)
theorem b_isStr (h : Dv H A v d) (q : Q (.bl (isStr d)) H) : rIsB K [v, .ty "str"] H Q := .inl (q_isStr h q)
theorem b_isBl (h : Dv H A v d) (q : Q (.bl (isBl d)) H) : rIsB K [v, .ty "bool"] H Q := .inl (q_isBl h q)
theorem b_isInt (h : Dv H A v d) (q : Q (.bl (isInt d)) H) : rIsB K [v, .ty "int"] H Q := .inl (q_isInt h q)
theorem b_isTL {p : Addr} (h : Dv H A v d) (hp : H p = some (.tup [.ty "tuple", .ty "list"])) (q : Q (.bl (isTup d || isLst d)) H) : rIsB K [v, .ref p] H Q := by
  refine .inr ⟨v, p, [.ty "tuple", .ty "list"], .type (tyOf d), [.type "tuple", .type "list"], isTup d || isLst d, rfl, hp, .cons (.ty "tuple") (.cons (.ty "list") .nil), h.ty, ?_, q⟩
  have k1 : PySem.W.kitOne K (.type (tyOf d)) (.type "tuple") = some (isTup d) := kit_ty (by cases d <;> (simp only [tyOf, isTup]; decide +kernel))
  have k2 : PySem.W.kitOne K (.type (tyOf d)) (.type "list") = some (isLst d) := kit_ty (by cases d <;> (simp only [tyOf, isLst]; decide +kernel))
  unfold PySem.W.kitAny PySem.W.kitAny PySem.W.kitAny
  rw [k1, k2]
  cases isTup d <;> cases isLst d <;> rfl
theorem b_cut_tx {l : List Nat} {i j : Nat} (hz : l.length ≤ 100000) (q : Q (.str (tx ((l.drop i).take (j - i)))) H) : rSlB K (.str (tx l)) (some (i : Int)) (some (j : Int)) H Q :=
  .inr (.inl ⟨tx l, rfl, by rw [len_tx]; exact Nat.le_trans hz (by decide), by rw [cut_tx]; exact q⟩)
end
end Ak

set_option maxHeartbeats 4000000
/-! AkTop: what the top has left, found in the written part. -/
namespace Ak
open PySem PySem.Spec PyProof.Rows L2 TL
structure DefAt (K : PySem.W.Frag) (mg : Str → Option Value) (x : Str) (st : Stmt) (f : Addr) (fd : FuncData) : Prop where
  g : mg x = some (.ref f)
  F : Fun K x x st f fd
section
variable {K : PySem.W.Frag} {h : Heap} {mg : Str → Option Value} {x : Str}
/-! each as a step of the end: what the written part says, and on -/
theorem then_def {G' : Prop} {st : Stmt} {f : Addr} {oc : Value} {od an : Option Addr} {osl : Array (Option Value)} {kV doc pm cdv ct : Value} (X : K.In h) (G : h.Ns mainGlobals mg) (a : PySem.W.nsIn K mainGlobals x = some (some (.ref f)))
    (l : K.lookup f = some ⟨oc, od, .func (PySem.W.fnOf x x (defArgs st) (defBody st) (defScope st) .none kV doc pm an cdv ct), osl⟩) (c : PySem.W.codeIn K cdv x = true) (k : PySem.W.keepIn K (.ref f) = true) (go : ∀ f fd, DefAt K mg x st f fd → G') : G' :=
  go f _ ⟨PySem.W.mg_of X G a, fun_mk l c k⟩
theorem then_none {G' : Prop} (X : K.In h) (G : h.Ns mainGlobals mg) (a : PySem.W.nsIn K mainGlobals x = some none) (go : mg x = none → G') : G' := go (PySem.W.mg_none_of X G a)
theorem then_int {G' : Prop} {i : Int} {t : Tok} (X : K.In h) (G : h.Ns mainGlobals mg) (a : PySem.W.nsIn K mainGlobals x = some (some (.int i t))) (go : (∃ u, mg x = some u ∧ RelV (.int i) u) → G') : G' := go ⟨_, PySem.W.mg_of X G a, t, rfl⟩
theorem then_str {G' : Prop} {s : String} {t : Tok} (X : K.In h) (G : h.Ns mainGlobals mg) (a : PySem.W.nsIn K mainGlobals x = some (some (.str (Str.ofString s) t))) (go : (∃ u, mg x = some u ∧ RelV (.str (tx (cs s))) u) → G') : G' := go ⟨_, PySem.W.mg_of X G a, rel_lit⟩
theorem then_tup {G' : Prop} {a : Addr} {od : Option Addr} {its : Array Value} {n : Nat} {sl : Array (Option Value)} {xs : List V} (X : K.In h) (G : h.Ns mainGlobals mg) (e : PySem.W.nsIn K mainGlobals x = some (some (.ref a)))
    (l : K.lookup a = some ⟨.type "tuple", od, .seq its n, sl⟩) (z : its.size ≤ 100) (v : Vals xs its.toList) (go : ∀ a, (∃ u, mg x = some u ∧ RelV (.ref a) u) → (∀ H : Hp, SqT K H a xs) → G') : G' :=
  go a ⟨_, PySem.W.mg_of X G e, rfl⟩ fun H => .inr ⟨_, its, n, l, rfl, rfl, Nat.le_trans z (by decide), v⟩
theorem sub_of {C D : Addr} (h1 : PySem.W.typeIn K (.ref D) = some (.type "type")) (h2 : PySem.W.isClsIn K D = true) (h3 : PySem.W.subIn K (.ref C) (.ref D) = some true) : PySem.W.kitOne K (.ref C) (.ref D) = some true := by
  unfold PySem.W.kitOne
  split
  · rfl
  · have h2' : (PySem.W.clsIn K D).isSome = true := h2
    unfold PySem.W.kitCls
    simp [h1, h2', h3]
end
/-- a def with one parameter, given by its name -/
theorem kb_one {K : PySem.W.Frag} {x qual n : Str} {st : Stmt} {f : Addr} {fd : FuncData} (F : Fun K x qual st f fd)
    (h0 : ∀ (kV doc pm : Value) (an : Option Addr) (cdv ct : Value) (u : Value), bindArgs (PySem.W.fnOf x qual (defArgs st) (defBody st) (defScope st) .none kV doc pm an cdv ct) ⟨[u], []⟩ = pure [(n, u)])
    (h1 : ∀ (kV doc pm : Value) (an : Option Addr) (cdv ct : Value) (u : Value), bindArgs (PySem.W.fnOf x qual (defArgs st) (defBody st) (defScope st) .none kV doc pm an cdv ct) ⟨[], [(n, u)]⟩ = pure [(n, u)]) :
    KBinds K fd [n] [n] (fun us ws => us ++ ws) (fun vs zs => vs ++ zs) := by
  obtain ⟨oc, od, kV, doc, pm, an, cdv, ct, osl, rfl, lk, hcd⟩ := F.ex
  exact kbinds1 (h0 kV doc pm an cdv ct) (h1 kV doc pm an cdv ct)
end Ak

set_option maxHeartbeats 4000000
/-! AkLc: comprehensions with any target, over any walk; ends of tuples; zip of tuples. -/
namespace Ak
open PySem PySem.Spec PyProof.Rows L2 TL RZ
section
variable {g : TG} {tt : TT} {te : TE} {σ : L2.St} {H1 : Hp} {vs : List Nat} {J : It} {n : Nat} {G : Hp → Prop} {Y : Nat → Hp → V → Hp → Prop} {D : Addr} {Qd : Hp → Prop}
/-- each turn gives f j, or nothing; the heap grows -/
theorem lc_genF (w : Walk J n G Y) (f : Nat → Option V) (hz : n < sizeLine) (hG : ∀ H, Same H1 H → G H) (hY : ∀ j x H H', j < n → Same H1 H → Y j H x H' → Same H H')
    (he : ∀ j x H H', j < n → Same H1 H → Y j H x H' → ∀ (Q : VK) (R : Hp → Prop), (∀ v, f j = some v → ∀ H2, Same H' H2 → Q v H2) → (f j = none → ∀ H2, Same H' H2 → R H2) → g x (wipe σ vs) H' fun σ2 H2 => wipe σ2 vs = wipe σ vs ∧ tt σ2 H2 fun b H3 => if b = true then te σ2 H3 Q else R H3)
    (hD : H1 D = none) (hd : ∀ H', Same H1 H' → H' D = some (.lst ((List.range n).filterMap f)) → Qd H') :
    ∃ W : Nat → Nat → Hp → Prop, (∃ m, W 0 m (upd H1 D (.lst []))) ∧ ∀ j m H, W j m H →
      (J.stop j H ∧ Qd H) ∨ (J.go j H ∧ ∃ Nx : Hp → Prop, (∀ H', Nx H' → ∃ m', m' < m ∧ W (j + 1) m' H') ∧ ∀ x H', J.yld j H x H' → g x (wipe σ vs) H' fun σ2 H2 => wipe σ2 vs = wipe σ vs ∧ tt σ2 H2 fun b H3 =>
        if b = true then te σ2 H3 fun y H4 => ∃ acc, H4 D = some (.lst acc) ∧ acc.length < sizeLine ∧ Nx (upd H4 D (.lst (acc ++ [y]))) else Nx H3) := by
  refine lc_it (g := g) w (fun j H => Same H1 H ∧ H D = some (.lst ((List.range j).filterMap f))) ⟨same_new hD, upd_same⟩ (fun j H _ e => hG _ e.1) ?_ ?_
  · rintro j x H H' hj ⟨s1, hL⟩ y
    have sY := hY j x H H' hj s1 y
    refine he j x H H' hj s1 y _ _ (fun v e H2 s2 => ?_) (fun e H2 s2 => ?_)
    · have s3 := sY.trans s2
      refine ⟨_, s3 _ _ hL, ?_, ?_, ?_⟩
      · have := List.length_filterMap_le f (List.range j)
        rw [List.length_range] at this
        omega
      · intro b o eb
        rw [upd_ne (ne_of_none eb hD)]
        exact s3 _ _ (s1 _ _ eb)
      · rw [upd_same, List.range_succ, List.filterMap_append]
        simp [e]
    · have s3 := sY.trans s2
      refine ⟨s1.trans s3, ?_⟩
      rw [s3 _ _ hL, List.range_succ, List.filterMap_append]
      simp [e]
  · rintro H ⟨s1, hL⟩
    exact hd H s1 hL
theorem lc_gen (w : Walk J n G Y) (f : Nat → V) (hz : n < sizeLine) (hG : ∀ H, Same H1 H → G H) (hY : ∀ j x H H', j < n → Same H1 H → Y j H x H' → Same H H')
    (he : ∀ j x H H', j < n → Same H1 H → Y j H x H' → ∀ (Q : VK) (R : Hp → Prop), (∀ H2, Same H' H2 → Q (f j) H2) → g x (wipe σ vs) H' fun σ2 H2 => wipe σ2 vs = wipe σ vs ∧ tt σ2 H2 fun b H3 => if b = true then te σ2 H3 Q else R H3)
    (hD : H1 D = none) (hd : ∀ H', Same H1 H' → H' D = some (.lst ((List.range n).map f)) → Qd H') :
    ∃ W : Nat → Nat → Hp → Prop, (∃ m, W 0 m (upd H1 D (.lst []))) ∧ ∀ j m H, W j m H →
      (J.stop j H ∧ Qd H) ∨ (J.go j H ∧ ∃ Nx : Hp → Prop, (∀ H', Nx H' → ∃ m', m' < m ∧ W (j + 1) m' H') ∧ ∀ x H', J.yld j H x H' → g x (wipe σ vs) H' fun σ2 H2 => wipe σ2 vs = wipe σ vs ∧ tt σ2 H2 fun b H3 =>
        if b = true then te σ2 H3 fun y H4 => ∃ acc, H4 D = some (.lst acc) ∧ acc.length < sizeLine ∧ Nx (upd H4 D (.lst (acc ++ [y]))) else Nx H3) :=
  lc_genF w (fun j => some (f j)) hz hG hY (fun j x H H' hj s1 y Q R q _ => he j x H H' hj s1 y Q R fun H2 s2 => q _ rfl H2 s2) hD fun H' s h => hd H' s (by rw [h]; congr 2; exact (congrFun (List.filterMap_eq_map' (f := f)) _).symm ▸ rfl)
/-- over values known: a bool of each -/
theorem lc_boolsG {A : Addr → Prop} {xs : List V} {ds : List PyData} (w : Walk J xs.length G (YAt xs)) (f : PyData → Bool) (hx : DvAll H1 A xs ds) (hz : xs.length < sizeLine) (hG : ∀ H, Same H1 H → G H)
    (he : ∀ x d, d ∈ ds → ∀ H, Same H1 H → Dv H A x d → ∀ (Q : VK) (R : Hp → Prop), (∀ H2, Same H H2 → Q (.bl (f d)) H2) → g x (wipe σ vs) H fun σ2 H2 => wipe σ2 vs = wipe σ vs ∧ tt σ2 H2 fun b H3 => if b = true then te σ2 H3 Q else R H3)
    (hD : H1 D = none) (hd : ∀ H', Same H1 H' → H' D = some (.lst ((ds.map f).map V.bl)) → Qd H') :
    ∃ W : Nat → Nat → Hp → Prop, (∃ m, W 0 m (upd H1 D (.lst []))) ∧ ∀ j m H, W j m H →
      (J.stop j H ∧ Qd H) ∨ (J.go j H ∧ ∃ Nx : Hp → Prop, (∀ H', Nx H' → ∃ m', m' < m ∧ W (j + 1) m' H') ∧ ∀ x H', J.yld j H x H' → g x (wipe σ vs) H' fun σ2 H2 => wipe σ2 vs = wipe σ vs ∧ tt σ2 H2 fun b H3 =>
        if b = true then te σ2 H3 fun y H4 => ∃ acc, H4 D = some (.lst acc) ∧ acc.length < sizeLine ∧ Nx (upd H4 D (.lst (acc ++ [y]))) else Nx H3) := by
  refine lc_gen w (fun j => .bl (f (ds.getD j .none))) hz hG (fun j x H H' _ _ y => by rw [y.1]; exact Same.refl _) (fun j x H H' hj s1 y Q R q => ?_) hD fun H' s h => hd H' s (by
    rw [h]
    congr 2
    rw [hx.length]
    apply List.ext_getElem
    · simp
    · intro i h1 h2
      simp only [List.length_map, List.length_range] at h1
      simp [List.getD, List.getElem?_eq_getElem h1])
  obtain ⟨rfl, hx'⟩ := y
  obtain ⟨d, hd', hv⟩ := hx.at_ hx'
  refine he x d (List.mem_of_getElem? hd') _ s1 (hv.same s1) Q R fun H2 s2 => ?_
  have := q H2 s2
  rwa [List.getD, hd'] at this
end
section
variable {K : PySem.W.Frag} {a b : Addr} {xs ys : List V} {H : Hp} {Q : VK}
theorem walk_zipT {n : Nat} (hn : n = min xs.length ys.length) : Walk (ItzT K a b) n (fun H => SqT K H a xs ∧ SqT K H b ys) (YPair (fun i => xs[i]?) (fun i => ys[i]?)) := by
  subst hn
  refine ⟨fun i _ hi q => ?_, fun _ q => ⟨xs, ys, q.1, q.2, by omega⟩, fun i H v H' _ q y => ?_⟩
  · have h1 : i < xs.length := by omega
    have h2 : i < ys.length := by omega
    exact ⟨xs, ys, xs[i], ys[i], q.1, q.2, by simp [h1], by simp [h2]⟩
  · obtain ⟨T, x, z, h1, h2, h3, h4, h5⟩ := y
    exact ⟨T, x, z, h1, h2, h3, h4 xs q.1, h5 ys q.2⟩
theorem r_izipA {σ : L2.St} {ta : TA} {R : It → Hp → Prop} (q : ta σ H fun vs H1 => ∃ a b xs ys, vs = [.ref a, .ref b] ∧ ((SqL K H1 a xs ∧ SqL K H1 b ys ∧ R (Itz K a b) H1) ∨ (SqT K H1 a xs ∧ SqT K H1 b ys ∧ R (ItzT K a b) H1))) : iZipA K ta σ H R := q
theorem r_dput {σ : L2.St} {D : Ends} {td ty tv : TE} (q : tv σ H fun v H1 => td σ H1 fun x H2 => ty σ H2 fun y H3 => ∃ a H4, x = .ref a ∧ DPut H3 a y v H4 ∧ D.nx σ H4) : sDPut td ty tv D σ H := q
theorem r_dget {σ : L2.St} {td ty : TE} (q : td σ H fun x H1 => ty σ H1 fun y H2 => ∃ a v, x = .ref a ∧ DGet H2 a y (some v) ∧ Q v H2) : tDGet td ty σ H Q := q
theorem r_ienumT {σ : L2.St} {ta : TA} {R : It → Hp → Prop} (q : ta σ H fun vs H1 => ∃ a xs, vs = [.ref a] ∧ SqT K H1 a xs ∧ R (IteT K a) H1) : iEnumT K ta σ H R := q
theorem r_back {σ : L2.St} {te : TE} (q : te σ H fun x H1 => (∃ a xs, x = .ref a ∧ SqL K H1 a xs ∧ ∀ p, H1 p = none → Q (.ref p) (upd H1 p (.lst xs.reverse))) ∨
  (∃ a xs, x = .ref a ∧ SqT K H1 a xs ∧ ∀ p, H1 p = none → Q (.ref p) (upd H1 p (.tup xs.reverse))) ∨ (∃ z : Str, x = .str z ∧ z.length ≤ sizeLine ∧ Q (.str ⟨z.cps.toList.reverse.toArray⟩) H1)) : tBack K te σ H Q := q
theorem b_cutT {lo hi : Option Int} (st : SqT K H a xs) (q : ∀ b H', Same H H' → SqT K H' b (cutV xs lo hi) → Q (.ref b) H') : rSlB K (.ref a) lo hi H Q := by
  refine .inr (.inr ⟨a, xs, rfl, st, fun h => ?_, fun _ p hp => q p _ (same_new hp) (SqT.of upd_same)⟩)
  refine q a H (Same.refl _) ?_
  unfold cutV
  rw [h.1, h.2]
  simpa using st
/-- the piece stands in a tuple of the heap, in the old one or in a new one -/
theorem b_cutN {lo hi : Option Int} (ht : H a = some (.tup xs)) (q : ∀ b H', Same H H' → (b = a ∨ H b = none) → H' b = some (.tup (cutV xs lo hi)) → Q (.ref b) H') : rSlB K (.ref a) lo hi H Q := by
  refine .inr (.inr ⟨a, xs, rfl, SqT.of ht, fun h => ?_, fun _ p hp => q p _ (same_new hp) (.inr hp) upd_same⟩)
  refine q a H (Same.refl _) (.inl rfl) ?_
  unfold cutV
  rw [h.1, h.2]
  simpa using ht
theorem cut_from (xs : List V) (i : Nat) : cutV xs (some (i : Int)) none = xs.drop i := by
  unfold cutV
  rw [HT.sIx_none, HT.sIx_nat]
  by_cases h : i ≤ xs.length
  · rw [Nat.min_eq_left h, List.take_of_length_le (by rw [List.length_drop]; omega)]
  · rw [Nat.min_eq_right (by omega), List.drop_eq_nil_of_le (Nat.le_refl _), List.drop_eq_nil_of_le (by omega)]
    simp
theorem cut_to (xs : List V) (i : Nat) : cutV xs none (some (i : Int)) = xs.take i := by
  unfold cutV
  rw [HT.sIx_none, HT.sIx_nat, List.drop_zero, Nat.sub_zero]
  by_cases h : i ≤ xs.length
  · rw [Nat.min_eq_left h]
  · rw [Nat.min_eq_right (by omega), List.take_of_length_le (Nat.le_refl _), List.take_of_length_le (by omega)]
theorem b_tail {i : Nat} (st : SqT K H a xs) (q : ∀ b H', Same H H' → SqT K H' b (xs.drop i) → Q (.ref b) H') : rSlB K (.ref a) (some (i : Int)) none H Q := b_cutT st (by rw [cut_from]; exact q)
theorem b_tailN {i : Nat} (ht : H a = some (.tup xs)) (q : ∀ b H', Same H H' → (b = a ∨ H b = none) → H' b = some (.tup (xs.drop i)) → Q (.ref b) H') : rSlB K (.ref a) (some (i : Int)) none H Q := b_cutN ht (by rw [cut_from]; exact q)
theorem b_frontN {i : Nat} (ht : H a = some (.tup xs)) (q : ∀ b H', Same H H' → (b = a ∨ H b = none) → H' b = some (.tup (xs.take i)) → Q (.ref b) H') : rSlB K (.ref a) none (some (i : Int)) H Q := b_cutN ht (by rw [cut_to]; exact q)
theorem cutS_from (l : List Nat) (i : Nat) : cutS (tx l) (some (i : Int)) none = tx (l.drop i) := by
  unfold cutS
  rw [HT.sIx_nat, HT.sIx_none, len_tx]
  show tx ((l.drop (min i l.length)).take (l.length - min i l.length)) = _
  congr 1
  by_cases h : i ≤ l.length
  · rw [Nat.min_eq_left h, List.take_of_length_le (by rw [List.length_drop]; omega)]
  · rw [Nat.min_eq_right (by omega), List.drop_eq_nil_of_le (Nat.le_refl _), List.drop_eq_nil_of_le (as := l) (i := i) (by omega)]
    simp
theorem b_tail_tx {l : List Nat} {i : Nat} (hz : l.length ≤ 100000) (q : Q (.str (tx (l.drop i))) H) : rSlB K (.str (tx l)) (some (i : Int)) none H Q :=
  .inr (.inl ⟨tx l, rfl, by rw [len_tx]; exact Nat.le_trans hz (by decide), by rw [cutS_from]; exact q⟩)
theorem b_front {i : Nat} (st : SqT K H a xs) (q : ∀ b H', Same H H' → SqT K H' b (xs.take i) → Q (.ref b) H') : rSlB K (.ref a) none (some (i : Int)) H Q := b_cutT st (by rw [cut_to]; exact q)
end
end Ak
namespace Ak
open PySem PySem.Spec PyProof.Rows L2 TL RZ
mutual
theorem Dv.live {H : Hp} {A : Addr → Prop} : ∀ {v : V} {d : PyData}, Dv H A v d → Dv H (fun b => A b ∧ H b ≠ none) v d
  | _, _, .non => .non
  | _, _, .bl b => .bl b
  | _, _, .int i => .int i
  | _, _, .str x => .str x
  | _, _, .lst ha h1 h2 => .lst ⟨ha, by rw [h1]; simp⟩ h1 (DvAll.live h2)
  | _, _, .tupq ha h1 h2 => .tupq ⟨ha, h1.live⟩ h1 (DvAll.live h2)
  | _, _, .dct ha h1 => .dct ⟨ha, by rw [h1]; simp⟩ h1
theorem DvAll.live {H : Hp} {A : Addr → Prop} : ∀ {vs : List V} {ds : List PyData}, DvAll H A vs ds → DvAll H (fun b => A b ∧ H b ≠ none) vs ds
  | _, _, .nil => .nil
  | _, _, .cons a r => .cons (Dv.live a) (DvAll.live r)
end
theorem Dv.to {H : Hp} {A B : Addr → Prop} (m : ∀ b, A b → B b) {v : V} {d : PyData} (h : Dv H A v d) : Dv H B v d := h.frame (fun _ _ _ e => e) m
theorem DvAll.to {H : Hp} {A B : Addr → Prop} (m : ∀ b, A b → B b) {v : List V} {d : List PyData} (h : DvAll H A v d) : DvAll H B v d := h.frame (fun _ _ _ e => e) m
/-- not at a free place -/
theorem Dv.off {H : Hp} {A : Addr → Prop} {D : Addr} (hD : H D = none) {v : V} {d : PyData} (h : Dv H A v d) : Dv H (fun b => b ≠ D ∧ A b) v d :=
  h.live.to fun b q => ⟨fun e => q.2 (e ▸ hD), q.1⟩
theorem DvAll.off {H : Hp} {A : Addr → Prop} {D : Addr} (hD : H D = none) {v : List V} {d : List PyData} (h : DvAll H A v d) : DvAll H (fun b => b ≠ D ∧ A b) v d :=
  h.live.to fun b q => ⟨fun e => q.2 (e ▸ hD), q.1⟩
section
variable {g : TG} {tt : TT} {te : TE} {σ : L2.St} {H1 : Hp} {vs : List Nat} {J : It} {n : Nat} {G : Hp → Prop} {Y : Nat → Hp → V → Hp → Prop} {D : Addr} {Qd : Hp → Prop}
/-- each turn gives new data; the heap grows -/
theorem lc_data {B : Addr → Prop} (w : Walk J n G Y) (f : Nat → PyData) (hz : n < sizeLine) (hG : ∀ H, Same H1 H → G H) (hY : ∀ j x H H', j < n → Same H1 H → Y j H x H' → Same H H')
    (he : ∀ j x H H', j < n → Same H1 H → (∃ ys, H D = some (.lst ys)) → Y j H x H' → ∀ (Q : VK) (R : Hp → Prop), (∀ H2 v, Same H' H2 → Dv H2 (fun b => b ≠ D ∧ B b) v (f j) → Q v H2) → g x (wipe σ vs) H' fun σ2 H2 => wipe σ2 vs = wipe σ vs ∧ tt σ2 H2 fun b H3 => if b = true then te σ2 H3 Q else R H3)
    (hD : H1 D = none) (hd : ∀ H' acc, Same H1 H' → H' D = some (.lst acc) → DvAll H' (fun b => b ≠ D ∧ B b) acc ((List.range n).map f) → Qd H') :
    ∃ W : Nat → Nat → Hp → Prop, (∃ m, W 0 m (upd H1 D (.lst []))) ∧ ∀ j m H, W j m H →
      (J.stop j H ∧ Qd H) ∨ (J.go j H ∧ ∃ Nx : Hp → Prop, (∀ H', Nx H' → ∃ m', m' < m ∧ W (j + 1) m' H') ∧ ∀ x H', J.yld j H x H' → g x (wipe σ vs) H' fun σ2 H2 => wipe σ2 vs = wipe σ vs ∧ tt σ2 H2 fun b H3 =>
        if b = true then te σ2 H3 fun y H4 => ∃ acc, H4 D = some (.lst acc) ∧ acc.length < sizeLine ∧ Nx (upd H4 D (.lst (acc ++ [y]))) else Nx H3) := by
  refine lc_it (g := g) w (fun j H => Same H1 H ∧ ∃ acc, H D = some (.lst acc) ∧ DvAll H (fun b => b ≠ D ∧ B b) acc ((List.range j).map f)) ⟨same_new hD, [], upd_same, .nil⟩ (fun j H _ e => hG _ e.1) ?_ ?_
  · rintro j x H H' hj ⟨s1, acc, hL, hA⟩ y
    have sY := hY j x H H' hj s1 y
    refine he j x H H' hj s1 ⟨_, hL⟩ y _ _ (fun H2 v s2 hv => ?_)
    have s3 := sY.trans s2
    have hl := hA.length
    rw [List.length_map, List.length_range] at hl
    refine ⟨_, s3 _ _ hL, by omega, ?_, _, upd_same, ?_⟩
    · intro b o eb
      rw [upd_ne (ne_of_none eb hD)]
      exact s3 _ _ (s1 _ _ eb)
    · rw [List.range_succ, List.map_append]
      have q1 : DvAll H2 (fun b => b ≠ D ∧ B b) (acc ++ [v]) ((List.range j).map f ++ [f j]) := (hA.same s3).app (.cons hv .nil)
      exact q1.frame (fun b o n e => by rw [upd_ne n.1]; exact e) fun _ a => a
  · rintro H ⟨s1, acc, hL, hA⟩
    exact hd H acc s1 hL hA
end
end Ak

set_option maxHeartbeats 4000000
/-! AkLit: displays of known data, told at once. -/
namespace Ak
open PySem PySem.Spec PyProof.Rows L2 TL
/-- a text so many times -/
def rRepS : R2 := fun x y H Q => ∃ (l : List Nat) (k : Int), x = .str (tx l) ∧ y = .int k ∧ 2 ≤ k ∧ k ≤ 1000 ∧ 0 < l.length ∧ l.length ≤ 1000 ∧ Q (.str (tx (List.replicate k.toNat l).flatten)) H
theorem foldl_repN (l : List Nat) : ∀ (m : Nat) (acc : List Nat), List.foldl (fun x1 x2 => x1 ++ x2) acc.toArray (List.replicate m l.toArray) = (acc ++ (List.replicate m l).flatten).toArray
  | 0, acc => by simp
  | m + 1, acc => by
    rw [List.replicate_succ, List.foldl_cons, List.replicate_succ, List.flatten_cons]
    have : acc.toArray ++ l.toArray = (acc ++ l).toArray := by simp
    rw [this, foldl_repN l m (acc ++ l), List.append_assoc]
theorem op_repS {X : Cx} : OpR X (binaryOp .Mult) rRepS := by
  intro pins s σ H x y v u Q I rx ry h
  obtain ⟨l, k, rfl, rfl, h1, h2, h3, h4, q⟩ := h
  obtain ⟨t, rfl⟩ := rx
  obtain ⟨t2, rfl⟩ := ry
  have hl : (tx l).length = l.length := len_tx l
  have hk : l.length * k.toNat ≤ 1000 * 1000 := Nat.mul_le_mul h4 (by omega)
  refine P.mul_str (by rw [decide_eq_false (by omega), decide_eq_false (by omega)]; rfl) (fun _ _ => ?_) (fun _ _ => ?_) ?_
  · rw [hl]
    have e : (2 : Int) ^ 63 - 1 = 9223372036854775807 := by decide
    rw [e]
    have : (1000 : Int) ≤ 9223372036854775807 / k := Int.le_ediv_of_mul_le (by omega) (by omega)
    exact Int.not_lt.mpr (Int.le_trans (Int.ofNat_le.mpr h4) this)
  · rw [hl]
    have e : sizeLine = 16777216 := by first | rfl | (rw [PySem.sizeLine_eq])
    exact decide_eq_false (by omega)
  · rw [if_neg (by omega), if_neg (by
      rw [hl, Bool.or_eq_true, beq_iff_eq, beq_iff_eq]
      rintro (e | e) <;> omega)]
    have e2 : List.foldl (fun x1 x2 => x1 ++ x2) #[] (List.replicate k.toNat (tx l).cps) = (List.replicate k.toNat l).flatten.toArray := foldl_repN l k.toNat []
    refine ⟨?_, ?_⟩
    · rw [e2]
      show (List.replicate k.toNat l).flatten.toArray.size ≤ sizeLine
      rw [List.size_toArray, PyProof.Rows.lm_len_rep_flat, Nat.mul_comm]
      exact Nat.le_trans hk (by decide)
    · rw [e2]
      exact ⟨.str (tx (List.replicate k.toNat l).flatten), H, I.tok _, ⟨_, rfl⟩, q⟩
theorem opMulB {X : Cx} : OpR X (binaryOp .Mult) (fun x y H Q => rMulA x y H Q ∨ rRepS x y H Q) := or_op opMul op_repS
/-- te gives the data d, whatever has been laid since H0; new places are of A -/
def Gv (te : TE) (σ : L2.St) (H0 : Hp) (A : Addr → Prop) (d : PyData) : Prop := ∀ H Q, Same H0 H → (∀ H' v, Same H H' → Dv H' A v d → Q v H') → te σ H Q
def GvA (ta : TA) (σ : L2.St) (H0 : Hp) (A : Addr → Prop) (ds : List PyData) : Prop := ∀ H Q, Same H0 H → (∀ H' vs, Same H H' → DvAll H' A vs ds → Q vs H') → ta σ H Q
/-- new places are of A -/
def NewIn (H0 : Hp) (A : Addr → Prop) : Prop := ∀ H p, Same H0 H → H p = none → A p
section
variable {K : PySem.W.Frag} {σ : L2.St} {H0 : Hp} {A : Addr → Prop} {te : TE} {ta : TA} {d : PyData} {ds : List PyData} {i : Nat} {v : V}
theorem gv_int {z : Int} : Gv (tC (.int z)) σ H0 A (.int z) := fun H Q _ q => q H _ (Same.refl _) (.int z)
theorem gv_bl {b : Bool} : Gv (tC (.bl b)) σ H0 A (.bool b) := fun H Q _ q => q H _ (Same.refl _) (.bl b)
theorem gv_str {x : Str} : Gv (tC (.str x)) σ H0 A (.str x) := fun H Q _ q => q H _ (Same.refl _) (.str x)
theorem gv_non : Gv (tC .non) σ H0 A .none := fun H Q _ q => q H _ (Same.refl _) .non
theorem gv_var (h : σ[i]? = some (some v)) (hv : Dv H0 A v d) : Gv (tVar i) σ H0 A d := fun H Q s q => ⟨v, h, q H _ (Same.refl _) (hv.same s)⟩
theorem gv_neg {z : Int} (h : Gv te σ H0 A (.int z)) : Gv (tUn (rU fun i => .int (-i)) te) σ H0 A (.int (-z)) := fun H Q s q => h H _ s fun H' v s' hv => by
  cases hv
  exact ⟨z, rfl, q H' _ s' (.int _)⟩
theorem gv_pow {i j : Int} (h1 : 0 ≤ j) (h2 : j ≤ 1000000) (h3 : i.natAbs < 2 ^ 64) : Gv (tOp (rI CPow fun i j => .int (i ^ j.toNat)) (tC (.int i)) (tC (.int j))) σ H0 A (.int (i ^ j.toNat)) := fun H Q s q => ⟨i, j, rfl, rfl, ⟨h1, h2, h3⟩, q H _ (Same.refl _) (.int _)⟩
theorem gva_nil : GvA tNil σ H0 A [] := fun H Q _ q => q H _ (Same.refl _) .nil
theorem gva_cons (h : Gv te σ H0 A d) (hs : GvA ta σ H0 A ds) : GvA (tCons te ta) σ H0 A (d :: ds) := fun H Q s q => h H _ s fun H1 v s1 hv => hs H1 _ (s.trans s1) fun H2 vs s2 hvs => q H2 _ (s1.trans s2) (.cons (hv.same s2) hvs)
theorem gv_tup (hN : NewIn H0 A) (h : GvA ta σ H0 A ds) (hl : ds.length ≤ 100) : Gv (tTup ta) σ H0 A (.tuple ds) := fun H Q s q => h H _ s fun H1 vs s1 hvs =>
  ⟨Nat.le_trans (by rw [hvs.length]; exact hl) (by decide : 100 ≤ sizeLine), fun p hp => q _ _ (s1.trans (same_new hp)) (.tup (hN H1 p (s.trans s1) hp) upd_same (hvs.same (same_new hp)))⟩
theorem gv_lst (hN : NewIn H0 A) (h : GvA ta σ H0 A ds) (hl : ds.length ≤ 100) : Gv (tLst ta) σ H0 A (.list ds) := fun H Q s q => h H _ s fun H1 vs s1 hvs =>
  ⟨Nat.le_trans (by rw [hvs.length]; exact hl) (by decide : 100 ≤ sizeLine), fun p hp => q _ _ (s1.trans (same_new hp)) (.lst (hN H1 p (s.trans s1) hp) upd_same (hvs.same (same_new hp)))⟩
theorem gv_dct (hN : NewIn H0 A) : Gv tDNewK σ H0 A (.dict []) := fun H Q s q p hp => q _ _ (same_new hp) (.dct (hN H p s hp) upd_same)
theorem gv_back (hN : NewIn H0 A) (h : Gv te σ H0 A (.tuple ds)) : Gv (tBack K te) σ H0 A (.tuple ds.reverse) := fun H Q s q => h H _ s fun H1 v s1 hv => by
  obtain ⟨a, xs, rfl, _, ha, hx⟩ := hv.tup_inv
  exact .inr (.inl ⟨a, xs, rfl, ha.sq, fun p hp => q _ _ (s1.trans (same_new hp)) (.tup (hN H1 p (s.trans s1) hp) upd_same (hx.reverse.same (same_new hp)))⟩)
theorem gv_rep {l : List Nat} {k : Int} (h1 : 2 ≤ k) (h2 : k ≤ 1000) (h3 : 0 < l.length) (h4 : l.length ≤ 1000) : Gv (tOp (fun x y H Q => rMulA x y H Q ∨ rRepS x y H Q) (tC (.str (tx l))) (tC (.int k))) σ H0 A (.str (tx (List.replicate k.toNat l).flatten)) := fun H Q s q =>
  .inr ⟨l, k, rfl, rfl, h1, h2, h3, h4, q H _ (Same.refl _) (.str _)⟩
theorem gva_use {QA : List V → Hp → Prop} (h : GvA ta σ H0 A ds) (q : ∀ H' vs, Same H0 H' → DvAll H' A vs ds → QA vs H') : ta σ H0 QA := h H0 QA (Same.refl _) q
/-- l.extend([..]) of new data -/
theorem ext_step {D : Ends} {H : Hp} {l : Addr} {es : List PyData} (hσ : σ[i]? = some (some (.ref l))) (hl : ∃ vs, H l = some (.lst vs) ∧ DvAll H A vs ds) (hA : ¬ A l) (hG : GvA ta σ H A es) (hz : ds.length + es.length ≤ 1000)
    (q : ∀ H', (∀ b o, b ≠ l → H b = some o → H' b = some o) → (∃ vs, H' l = some (.lst vs) ∧ DvAll H' A vs (ds ++ es)) → D.nx σ H') : tDrop (tBM K "list" (rExtB K) (tVar i) (tCons (tLst ta) tNil)) D σ H := by
  obtain ⟨vs, hv, hd⟩ := hl
  refine r_drop (r_bm (r_var hσ ⟨.inl ⟨rfl, vs, SqL.of hv⟩, r_cons (r_lst (hG H _ (Same.refl _) fun H1 ws s1 hws => ⟨?_, fun b hb => r_nil (.inl ⟨l, b, vs, ws, rfl, rfl, ?_, upd_same, ?_, ?_⟩)⟩))⟩))
  · exact Nat.le_trans (by rw [hws.length]; omega : ws.length ≤ 1000) (by decide)
  · exact same_new hb _ _ (s1 _ _ hv)
  · exact Nat.le_trans (by rw [hws.length, hd.length]; omega : vs.length + ws.length ≤ 1000) (by decide)
  · have s2 := s1.trans (same_new (o := .lst ws) hb)
    refine q _ (fun c o n e => by rw [upd_ne n]; exact s2 _ _ e) ⟨_, upd_same, ?_⟩
    refine DvAll.frame (A := A) (fun c o a e => ?_) (fun _ a => a) ((hd.same s2).app (hws.same (same_new hb)))
    have n : c ≠ l := fun z => hA (z ▸ a)
    rw [upd_ne n]
    exact e
end
end Ak

set_option maxHeartbeats 4000000
/-! AkDict: d.get(k, x) with None for a key, dict of a tuple of pairs, tuple(l) with its one object known, l.remove(text), x is True. -/
namespace Ak
open PySem PySem.Spec PyProof.Rows L2 TL
/-! ### d.get(y, z), y may be None -/
def tDGetN (td ty tx : TE) : TE := fun σ H Q => td σ H fun x H1 => ∃ a, x = .ref a ∧ IsD H1 a ∧ ty σ H1 fun y H2 => tx σ H2 fun z H3 => (∃ o, DGet H3 a y o ∧ Q (o.getD z) H3) ∨ (y = .non ∧ ∃ kvs, H3 a = some (.dK kvs) ∧ Q z H3)
section
variable {X : Cx} {o e f : Expr} {apos cpos : Pos} {td ty tx : TE}
theorem pe_dgetN (hu : X.A.units + 1 < cLine) (ho : PE X o td) (he : PE X e ty) (hf : PE X f tx) (m : M2 X o "get" apos e f cpos) : PE X (.Call (.Attribute o "get" apos) [e, f] [] cpos) (tDGetN td ty tx) := by
  refine ⟨fun pins s σ H Q I h => ?_⟩
  refine wpAny_Call_method m.base m.few m.line PySem.F.plainAttrs_dict PySem.F.slot_dict_get PySem.F.type_dict_get (thn (ho.run pins s σ H _ I h) fun u s1 ⟨x, H1, I1, rx, a, ex, d, q1⟩ => ?_)
  subst ex
  obtain rfl : u = Value.ref a := rx
  obtain ⟨t1, t2, _⟩ := isD_at I1 d
  refine ⟨t1, t2, ?_⟩
  rw [m.trees]
  refine Calls.callWith_builtin rfl (Calls.evalArgs_plain (Calls.spliced_cons (thn (he.run pins s1 σ H1 _ I1 q1) fun iv s2 ⟨y, H2, I2, ry, q2⟩ =>
    Calls.spliced_cons (thn (hf.run pins s2 σ H2 _ I2 q2) fun fv s3 ⟨z, H3, I3, rz, q3⟩ => Calls.spliced_nil ?_))))
  rcases q3 with ⟨ov, g, q3⟩ | ⟨ey, kvs, g, q3⟩
  · exact d_get2 hu I3 g ry rz fun w' s4 I4 rw' => ⟨_, H3, I4, rw', q3⟩
  · subst ey
    obtain rfl : iv = Value.none := ry
    obtain ⟨zz, hd, vs, rel, dd⟩ := dk_of I3.hok g
    obtain ⟨fm, hm, hfm⟩ := none_map dd
    refine call_meetsIn PySem.F.slot_dict_get dd.typeIs PySem.F.entry_dict_get (PySem.F.args_dict_get_3 _ _ _) (meets_dict_get_default (noneKind X.prog X.w) a (k := none) (key := .none) rfl hd fv) ⟨_, hm, ?_⟩
    rw [hfm]
    exact ⟨z, H3, I3.tok _, rz, q3⟩
end
/-! ### tuple(l): the object known -/
def rTupF (K : PySem.W.Frag) : List V → Hp → VK → Prop := fun xs H Q => ∃ p ys, xs = [.ref p] ∧ SqL K H p ys ∧ ∀ l ob, H l = none → ob.cls = .type "tuple" → ob.dict = none → Q (.ref l) (upd H l (.frz ob (.tup ys)))
section
variable {X : Cx}
theorem cr_tupF {K : PySem.W.Frag} (hK : X.K = K) : CallR X (.type "tuple") (rTupF K) := by
  subst hK
  intro pins s σ H xs us Q I r h
  obtain ⟨p, ys, rfl, hq, q⟩ := h
  obtain ⟨u, rfl, rx⟩ := vals1 r
  cases rx
  obtain ⟨its, r', pl, hz⟩ := I.list hq
  have hlen := r'.length
  refine call_tuple_list pl.isList (fun h' kp => ?_) (by simp only [List.size_toArray] <;> omega)
  have I1 : Inv X pins σ H { s with heap := h' } := I.kept (t' := s.toks) kp
  have e := Heap.get?_push_size h' (o := ({ cls := .type "tuple", data := .seq its.toArray } : Obj)) rfl
  have I2 : Inv X pins σ (upd H h'.objs.size (.frz { cls := .type "tuple", data := .seq its.toArray } (.tup ys))) { s with heap := h'.push { cls := .type "tuple", data := .seq its.toArray } } :=
    I1.laid (t' := s.toks) (fun b o e => Heap.get?_push_of_some _ e) (Nat.le_refl _) (show ObjOk X.prog X.w _ _ _ (.frz _ (.tup ys)) from ⟨e, hz, its, r', IsTup.new _ _⟩)
  exact ⟨.ref h'.objs.size, _, I2, rfl, q _ _ (I1.hok.fresh (Nat.le_refl _)) rfl rfl⟩
/-! ### dict of pairs -/
def rDictP (K : PySem.W.Frag) : List V → Hp → VK → Prop := fun xs H Q => ∃ (a : Addr) (ps : List Addr) (kvs : List (Key × V)), xs = [.ref a] ∧ SqL K H a (ps.map V.ref) ∧ Paired (fun p kv => SqT K H p [kV kv.1, kv.2]) ps kvs ∧ ∀ p, H p = none → Q (.ref p) (upd H p (.dK (mergeK [] kvs)))
def rDictF (K : PySem.W.Frag) : List V → Hp → VK → Prop := fun xs H Q => ∃ (a : Addr) (ob : Obj) (ps : List Addr) (kvs : List (Key × V)), xs = [.ref a] ∧ H a = some (.frz ob (.tup (ps.map V.ref))) ∧ ob.cls = .type "tuple" ∧ ob.dict = none ∧ Paired (fun p kv => SqT K H p [kV kv.1, kv.2]) ps kvs ∧ ∀ p, H p = none → Q (.ref p) (upd H p (.dK (mergeK [] kvs)))
theorem cr_dictF (hcalm : X.calm = true) : CallR X (.type "dict") (rDictF X.K) := by
  intro pins s σ H xs us Q I r q
  obtain ⟨a, ob, ps, kvs, ex, hq, hcl, hdc, hp, q⟩ := q
  subst ex
  obtain ⟨u, eu, rx⟩ := vals1 r
  subst eu
  cases rx
  obtain ⟨eo, hz, its, rv, ho⟩ := (show ObjOk X.prog X.w H s.heap a (.frz ob (.tup (ps.map V.ref))) from I.hok a _ hq)
  have ei := refs_at rv
  subst ei
  rw [List.length_map] at hz
  obtain ⟨prs, rel, hl, hpr⟩ := pairs_of I hp
  obtain ⟨o', e1, e2, n, e3⟩ := ho
  rw [eo] at e1
  cases e1
  have h1 : ∀ j : Nat, ∃ u : Value, ∀ q' : Key × Value, prs[j]? = some q' → ∃ b, ps[j]? = some b ∧ IsTup s.heap b #[u, q'.2] ∧ keyIs q'.1 u = true := fun j => by
    cases e : prs[j]? with
    | none => exact ⟨.none, fun q' z => nomatch z⟩
    | some q0 =>
      obtain ⟨b, u, p1, p2, p3⟩ := hpr j q0 e
      exact ⟨u, fun q' z => by
        cases z
        exact ⟨b, p1, p2, p3⟩⟩
  obtain ⟨f, hf⟩ := Classical.axiomOfChoice h1
  have hv : ∀ (j : Nat) (k v : Value), ((List.range prs.length).map fun j => (f j, (prs.getD j (Sum.inl 0, .none)).2))[j]? = some (k, v) → ∃ q', prs[j]? = some q' ∧ k = f j ∧ v = q'.2 := fun j k v e => by
    obtain ⟨i, hi, e2⟩ := map_at e
    obtain ⟨hj, hi2⟩ := List.getElem?_eq_some_iff.mp hi
    rw [List.length_range] at hj
    rw [List.getElem_range] at hi2
    subst hi2
    rw [List.getD_eq_getElem?_getD, List.getElem?_eq_getElem hj] at e2
    simp only [Option.getD_some, Prod.mk.injEq] at e2
    exact ⟨_, List.getElem?_eq_getElem hj, e2.1, e2.2⟩
  refine PySem.call_dict_pairs (knd := mixKind X.prog X.w) (kvs := prs) (PairArg.tuple (prog := X.prog) (w := X.w) a (ps.map Value.ref).toArray (fun j => ps.getD j 0) ((List.range prs.length).map fun j => (f j, (prs.getD j (Sum.inl 0, .none)).2))) (I.ok.hd hcalm) ⟨⟨ob, n, eo, hcl, hdc, e3⟩, by simp [hl], fun j k v e => ?_⟩ ⟨by simp, fun j k v e => ?_⟩ (by simp only [List.length_map, List.length_range]; rw [hl]; exact hz) fun h' tk hd' k => ?_
  · obtain ⟨q', e1, rfl, rfl⟩ := hv j k v e
    obtain ⟨b, p1, p2, p3⟩ := hf j q' e1
    have ej : ps.getD j 0 = b := by rw [List.getD_eq_getElem?_getD, p1]; rfl
    show (ps.map Value.ref).toArray[j]? = some (.ref (ps.getD j 0)) ∧ PairAt s.heap (ps.getD j 0) (f j) q'.2
    rw [ej]
    exact ⟨by simp [p1], .inl p2⟩
  · obtain ⟨q', e1, rfl, rfl⟩ := hv j k v e
    obtain ⟨b, p1, p2, p3⟩ := hf j q' e1
    exact ⟨q'.1, e1, p3⟩
  · have hm : (s.heap.objs.size == sysModules) = false := beq_eq_false_iff_ne.mpr (Nat.ne_of_gt I.big)
    have hlen : (mergeK [] kvs).length ≤ sizeLine := by
      refine Nat.le_trans (length_mergeK kvs []) ?_
      rw [List.length_nil, Nat.zero_add, rel.length, hl]
      exact hz
    exact ⟨.ref s.heap.objs.size, upd H s.heap.objs.size (.dK (mergeK [] kvs)), I.laid (t' := tk) (fun b o e => k b o (by simp) e) (Nat.le_refl _) (show ObjOk X.prog X.w _ _ _ (.dK (mergeK [] kvs)) from ⟨hlen, hm, merged [] prs, KV.merge rel .nil, hd'⟩), rfl, q _ (I.hok.fresh (Nat.le_refl _))⟩
def rDictB (K : PySem.W.Frag) : List V → Hp → VK → Prop := fun xs H Q => rDictP K xs H Q ∨ rDictF K xs H Q
theorem caDict {K : PySem.W.Frag} (hK : X.K = K) (hc : X.calm = true) : CallR X (.type "dict") (rDictB K) := by subst hK; exact or_call (call_dictP hc) (cr_dictF hc)
/-! ### list(x) -/
def rListB (K : PySem.W.Frag) : List V → Hp → VK → Prop := fun xs H Q => rListA K xs H Q ∨ ∃ (a : Addr) (kvs : List (Key × V)), xs = [.ref a] ∧ Rd H a (.dK kvs) ∧ ∀ p, H p = none → Q (.ref p) (upd H p (.lst (kvs.map fun kv => kV kv.1)))
theorem caListB {K : PySem.W.Frag} (hK : X.K = K) (hc : X.calm = true) : CallR X (.type "list") (rListB K) := or_call (caList hK) (call_listD hc)
/-! ### l.remove(text) -/
theorem first_atS : ∀ {ns : List Str} {k : Str}, k ∈ ns → ∃ j, j < ns.length ∧ ns[j]? = some k ∧ (∀ i, i < j → ns[i]? ≠ some k) ∧ ns.eraseIdx j = ns.erase k
  | [], k, h => absurd h (by simp)
  | a :: r, k, h => by
    by_cases e : a = k
    · refine ⟨0, Nat.succ_pos _, by rw [e] <;> rfl, fun i hi => absurd hi (Nat.not_lt_zero _), ?_⟩
      rw [e, List.erase_cons_head] <;> rfl
    · have hr : k ∈ r := by
        rcases List.mem_cons.mp h with z | z
        · exact absurd z.symm e
        · exact z
      obtain ⟨j, h1, h2, h3, h4⟩ := first_atS hr
      refine ⟨j + 1, Nat.succ_lt_succ h1, h2, fun i hi => ?_, ?_⟩
      · cases i with
        | zero =>
          intro z
          exact e (Option.some.inj z)
        | succ i => exact h3 i (Nat.lt_of_succ_lt_succ hi)
      · rw [List.erase_cons_tail (by rw [beq_iff_eq]; exact e), ← h4] <;> rfl
theorem map_eraseIdxS (f : Str → V) : ∀ (ns : List Str) (j : Nat), (ns.map f).eraseIdx j = (ns.eraseIdx j).map f
  | [], _ => rfl
  | _ :: _, 0 => rfl
  | n :: r, j + 1 => by
    show f n :: (r.map f).eraseIdx j = f n :: (r.eraseIdx j).map f
    rw [map_eraseIdxS f r j]
def rRemS : V → List V → Hp → VK → Prop := fun x vs H Q => ∃ (l : Addr) (ns : List Str) (k : Str), x = .ref l ∧ vs = [.str k] ∧ H l = some (.lst (ns.map V.str)) ∧ k ∈ ns ∧ Q .non (upd H l (.lst ((ns.erase k).map V.str)))
theorem strsAre_of : ∀ {ss : List Str} {us : List Value}, Vals (ss.map V.str) us → StrsAre us ss
  | [], _, .nil => .nil
  | s :: ss, _, .cons r t => by
    obtain ⟨k, rfl⟩ := r
    exact .cons s k (strsAre_of t)
theorem mt_remS : MtM X "list.remove" rRemS := by
  intro pins s σ H x vs v us Q I rx rv h
  obtain ⟨l, ns, k, rfl, rfl, hH, hk, q⟩ := h
  cases rx
  obtain ⟨u, rfl, ru⟩ := rv.one
  obtain ⟨t, rfl⟩ := (show ∃ t, u = Value.str k t from ru)
  obtain ⟨z, its, n, r, hl, e0⟩ := I.lstM hH
  have hi : StrsAre its ns := strsAre_of r
  have hnl : ns.length = its.length := by rw [← hl, List.length_map]
  obtain ⟨j, j1, j2, j3, j4⟩ := first_atS hk
  have hj : j < its.length := by omega
  refine call_meets PySem.F.slot_list_remove ⟨_, e0, rfl⟩ PySem.F.entry_list_remove (PySem.F.args_list_remove_2 _ _)
    (MeetsSeq.list_remove l its.toArray n (.str k t) (isStrOf k) (fun y hy => eq_isStrOf k t hi y (by simpa using hy)) j (by rw [List.size_toArray]; exact hj) ?hit (fun i hi2 hlt => ?hno) (by rw [List.size_toArray, ← hl]; exact z)) ⟨e0, ?_⟩
  case hit =>
    show isStrOf k its[j] = true
    rw [PySem.SeqAt.isStrOf_at k hi j hj j1, beq_iff_eq]
    rw [List.getElem?_eq_getElem j1] at j2
    exact Option.some.inj j2
  case hno =>
    have hi3 : i < its.length := by rw [List.size_toArray] at hi2; exact hi2
    show isStrOf k its[i] = false
    rw [PySem.SeqAt.isStrOf_at k hi i hi3 (by omega)]
    refine beq_false_of_ne fun w => j3 i hlt ?_
    rw [List.getElem?_eq_getElem (by omega), w]
  have r2 : Vals ((ns.erase k).map V.str) (its.eraseIdx j) := by
    have w := r.eraseIdx j
    rw [map_eraseIdxS, j4] at w
    exact w
  refine ⟨.non, _, I.lset (its' := its.eraseIdx j) hH e0 ?_ r2 ?_, rfl, q⟩
  · show its.toArray.eraseIdxIfInBounds j = (its.eraseIdx j).toArray
    rw [List.eraseIdxIfInBounds_toArray]
  · rw [List.length_map]
    have := List.length_erase_le (a := k) (l := ns)
    rw [List.length_map] at z
    omega
/-! ### len(x) -/
def rLenB (K : PySem.W.Frag) : List V → Hp → VK → Prop := fun xs H Q => rLenA K xs H Q ∨ ∃ (a : Addr) (kvs : List (Key × V)), xs = [.ref a] ∧ H a = some (.dK kvs) ∧ Q (.int kvs.length) H
theorem caLenB {K : PySem.W.Frag} (hK : X.K = K) : CallR X (.builtin "len") (rLenB K) := by
  refine or_call (caLen hK) ?_
  intro pins s σ H xs us Q I r q
  obtain ⟨a, kvs, rfl, e, q⟩ := q
  rw [Vals.ref1 r]
  exact d_len I (.inl e) fun t s' I' => ⟨.int kvs.length, H, I', ⟨t, rfl⟩, q⟩
section
variable {K : PySem.W.Frag} {σ : L2.St} {H : Hp} {Q : VK}
theorem r_dsetd {td ty tx : TE} (q : td σ H fun x H1 => ∃ a, x = .ref a ∧ IsD H1 a ∧ ty σ H1 fun y H2 => tx σ H2 fun z H3 => ∃ (kvs : List (Key × V)) (k : Key), H3 a = some (.dK kvs) ∧ y = kV k ∧ kvs.length < sizeLine ∧
  (∀ v, valV kvs k = some v → Q v H3) ∧ (valV kvs k = none → Q z (upd H3 a (.dK (putK kvs k z))))) : tDSetd td ty tx σ H Q := q
theorem r_dgetN {td ty tx : TE} (q : td σ H fun x H1 => ∃ a, x = .ref a ∧ IsD H1 a ∧ ty σ H1 fun y H2 => tx σ H2 fun z H3 => (∃ o, DGet H3 a y o ∧ Q (o.getD z) H3) ∨ (y = .non ∧ ∃ kvs, H3 a = some (.dK kvs) ∧ Q z H3)) : tDGetN td ty tx σ H Q := q
theorem r_dnotinN {ty td : TE} (q : ty σ H fun y H1 => td σ H1 fun x H2 => (∃ a o, x = .ref a ∧ DGet H2 a y o ∧ Q (.bl (!o.isSome)) H2) ∨ ∃ a kvs, x = .ref a ∧ y = .non ∧ Rd H2 a (.dK kvs) ∧ Q (.bl true) H2) : tDNotInN ty td σ H Q := q
theorem q_lenB_lst {p : Addr} {xs : List V} (hp : SqL K H p xs) (q : Q (.int (xs.length : Int)) H) : rLenB K [.ref p] H Q := .inl (q_len_lst hp q)
theorem q_lenB_tup {p : Addr} {xs : List V} (hp : SqT K H p xs) (q : Q (.int (xs.length : Int)) H) : rLenB K [.ref p] H Q := .inl (q_len_tup hp q)
theorem q_lenB_dct {p : Addr} {kvs : List (Key × V)} (hp : H p = some (.dK kvs)) (q : Q (.int (kvs.length : Nat)) H) : rLenB K [.ref p] H Q := .inr ⟨p, kvs, rfl, hp, q⟩
theorem q_lenB_tx {l : List Nat} (hz : l.length ≤ 100000) (q : Q (.int (l.length : Int)) H) : rLenB K [.str (tx l)] H Q := .inl (q_len_tx hz q)
end
/-! ### x is True -/
def tIsTr (ta : TE) : TE := fun σ H Q => ta σ H fun x H1 => ∃ b, x = .bl b ∧ Q (.bl b) H1
theorem pc_isTr {a : Expr} {ta : TE} {j : Nat} {pos' : Pos} (ha : PE X a ta) : PC X .Is a (.Constant (.bool true) j pos') (tIsTr ta) := by
  refine ⟨fun pins s σ H Q I h => ?_⟩
  refine thn (ha.run pins s σ H _ I h) fun v s1 ⟨x, H1, I1, r1, b, ex, q1⟩ => ?_
  subst ex
  obtain rfl : v = Value.bool b := r1
  refine Constant_bool ?_
  have e : (Value.bool b == Value.bool true) = b := by cases b <;> rfl
  first | exact wpAny_pure ⟨.bl _, H1, I1, e, q1⟩ | (cases b <;> exact wpAny_pure ⟨.bl _, H1, I1, rfl, q1⟩)
theorem r_isTr {σ : L2.St} {H : Hp} {Q : VK} {ta : TE} (q : ta σ H fun x H1 => ∃ b, x = .bl b ∧ Q (.bl b) H1) : tIsTr ta σ H Q := q
end
/-! ### name = {..: .. for ..} on one line, the name a local -/
section
variable {X : Cx}
theorem ps_setDc {i : Nat} {y : Str} {py : Pos} {kx vx tg iter : Expr} {ifs : List Expr} {scope : Scope} {own : List (Str × Nat)} {pos spos : Pos} {wi : TI} {g : TG} {tt : TT} {tk tv : TE} (hc : X.calm = true) (hN : X.N.Nodup) (hy : X.N[i]? = some y) (hyl : X.env.scope.names.lookup y = some .local)
    (hsw : swapsWith (.DictComp kx vx [⟨tg, iter, ifs, 0⟩] scope pos) (some (.Name y py)) spos.line X.env = pure true) (hi : PI X tg iter wi) (ok : BlkOk X.N X.env.scope scope own)
    (hg : ∀ (s : Shared) (H : Hp) (C : Addr) (cl : List (Str × Addr)) (fp : List Addr), PG (X.blk s H scope (compEnvC scope cl C X.env) fp) tg g) (ht : ∀ (s : Shared) (H : Hp) (C : Addr) (cl : List (Str × Addr)) (fp : List Addr), PTs (X.blk s H scope (compEnvC scope cl C X.env) fp) ifs tt)
    (hk : ∀ (s : Shared) (H : Hp) (C : Addr) (cl : List (Str × Addr)) (fp : List Addr), PE (X.blk s H scope (compEnvC scope cl C X.env) fp) kx tk)
    (he : ∀ (s : Shared) (H : Hp) (C : Addr) (cl : List (Str × Addr)) (fp : List Addr), PE (X.blk s H scope (compEnvC scope cl C X.env) fp) vx tv) (hs : ∀ x, foldedSetIterable iter X.env x = pure x := by intro _; rfl) :
    PS X (.Assign [.Name y py] (.DictComp kx vx [⟨tg, iter, ifs, 0⟩] scope pos) spos) (tAsg (tDc wi g tt tk tv (own.map (·.2))) (gName i)) := by
  refine ⟨fun pins s σ H D I h => ?_⟩
  rw [exec_Assign_Name_used _ _ _ _ hsw]
  refine wpAny_bind (wpAny_standAt (wpAny_bind ?_))
  show wpAny _ X.A (do let _ ← comprehension (.DictComp kx vx [⟨tg, iter, ifs, 0⟩] scope pos) scope X.env (firstIterPos [⟨tg, iter, ifs, 0⟩] pos) newDict false (eval iter X.env) (some (assign (.Name y py) X.env))) _ _ s
  have h : tDc wi g tt tk tv (own.map (·.2)) σ H (fun x H1 => gName i x σ H1 D.nx) := h
  refine wpAny_bind (thn (dc_core (Qf := fun _ s' => SP X pins D .next s') hc hN I hi ok hg ht hk he hs h fun L C s' m H' I' q hn f => ?_) fun _ s' hq => wpAny_pure (wpAny_pure hq))
  show wpAny _ _ (assign (.Name y py) X.env (.ref L)) _ _ _
  refine wpAny_assign_Name (store_ok2 (v := V.ref L) I' hN hy (.inl hyl) rfl (fun s2 I2 ⟨a, sb, ha⟩ => ?_) (.inr hyl))
  obtain ⟨f0, f1, f2, f3, f4, f5⟩ := f
  have haC : C ≠ a := by
    rcases ha with z | z
    · rw [z]; exact f1
    · exact fun e => f4 y a z e.symm
  refine ⟨m, hn.sameBut sb haC, fun h3 sb3 => ?_⟩
  exact ⟨_, H', I2.turned (t' := s2.toks) (fun b o hb e => (sb3.2 b hb).trans e) f0 f1 f3 f4 f5, q⟩
theorem swD_true {kx vx : Expr} {gs : List Comprehension} {scope : Scope} {pos py : Pos} {y : Str} {l : Nat} {env : Env} (hk : env.scope.kind = .function) (hy : env.scope.names.lookup y = some .local) (hl : (py.line == pos.line) = true)
    (ha : (scope.names.any fun (n, k) => n == y && (k == .local || k == .cell)) = false) : swapsWith (.DictComp kx vx gs scope pos) (some (.Name y py)) l env = pure true := by
  have ky : env.kindOf y = some .local := hy
  have hb : env.blockKind = .function := by unfold Env.blockKind; rw [hk]; rfl
  unfold swapsWith
  simp only [hb, ky, ha, Expr.pos, hl]
  rfl
theorem r_lockAsg {D : Ends} {σ : L2.St} {H : Hp} {te : TE} {i : Nat} (q : tLockE te σ H (fun v H' => D.nx (σ.set i (some v)) H')) : tLock (tAsg te (gName i)) D σ H := q
end
end Ak

set_option maxHeartbeats 4000000
/-! AkShowD: repr of a list in which dicts of whole numbers stand. -/
namespace Ak
open PySem PySem.Spec PyProof.Rows L2 TL
def tLstN (ta : TA) : TE := fun σ H Q => ta σ H fun xs H1 => xs.length ≤ sizeLine ∧ ∀ p, H1 p = none → p ≠ sysModules → Q (.ref p) (upd H1 p (.lst xs))
theorem pe_lstN {X : Cx} {es : List Expr} {t : TA} {pos : Pos} (h : PA X es t) : PE X (.List es pos) (tLstN t) := by
  refine ⟨fun pins s σ H Q I hq => ?_⟩
  refine wpAny_List_spliced (thn (h.run pos pins s σ H _ I hq) fun us s1 ⟨xs, H1, I1, r, z, q⟩ => ⟨by rw [← r.length]; exact z, ?_⟩)
  have hf : H1 s1.heap.objs.size = none := I1.hok.fresh (Nat.le_refl _)
  refine ⟨.ref s1.heap.objs.size, upd H1 s1.heap.objs.size (.lst xs), I1.laid (t' := s1.toks) (fun b u e => Heap.get?_push_of_some _ e) (Nat.le_refl _) ?_, rfl, q _ hf (Nat.ne_of_gt I1.big)⟩
  exact ⟨z, us, 0, r, Heap.get?_push_size _ rfl⟩
theorem r_lstN {σ : L2.St} {H : Hp} {Q : VK} {a : TA} (q : a σ H fun xs H1 => xs.length ≤ sizeLine ∧ ∀ p, H1 p = none → p ≠ sysModules → Q (.ref p) (upd H1 p (.lst xs))) : tLstN a σ H Q := q
/-- data without lists, or a dict of whole numbers with such data -/
inductive DnV (H : Hp) : V → PyData → Prop
  | dv {A : Addr → Prop} {v : V} {d : PyData} : Dv H A v d → noLst d = true → DnV H v d
  | dk {A : Addr → Prop} {a : Addr} {kvs : List (Key × V)} {ns : List Int} {ds : List PyData} : H a = some (.dK kvs) → kvs.map (·.1) = ns.map Sum.inl → DvAll H A (kvs.map (·.2)) ds → noLstAll ds = true → DnV H (.ref a) (.dict ((ns.map PyData.int).zip ds))
inductive DnAll (H : Hp) : List V → List PyData → Prop
  | nil : DnAll H [] []
  | cons {v : V} {vs : List V} {d : PyData} {ds : List PyData} : DnV H v d → DnAll H vs ds → DnAll H (v :: vs) (d :: ds)
section
variable {X : Cx} {pins : List (Addr × Obj)} {σ : L2.St} {H : Hp} {s : Shared}
theorem reads_keys {P : Program} {w : World} {h : Heap} : ∀ {es : List DictEntry} {vs : List (Key × Value)} {ns : List Int}, Pairs (mixKind P w) es vs → vs.map (·.1) = ns.map Sum.inl → ReadsAll h (es.map (·.key)) (ns.map PyData.int) []
  | [], vs, ns, hp, hn => by
    cases hp
    cases ns with
    | nil => exact .nil
    | cons _ _ => simp at hn
  | e :: es, vs, ns, hp, hn => by
    cases hp with
    | cons h1 h1v h2 =>
      cases ns with
      | nil => simp at hn
      | cons n ns =>
        simp only [List.map_cons, List.cons.injEq] at hn
        have r := reads_keys (h := h) h2 hn.2
        have hk : keyIs _ _ = true := h1
        rw [hn.1] at hk
        rcases keyIs_shape hk with ⟨i, t, e1, e2⟩ | ⟨x, t, e1, e2⟩
        · cases e1
          have := ReadsAll.cons (Reads.int (h := h) n t) r
          rw [List.map_cons, List.map_cons]
          first | (rw [e2]; exact this) | exact this
        · cases e1
theorem vals_pairs {P : Program} {w : World} : ∀ {es : List DictEntry} {vs : List (Key × Value)}, Pairs (mixKind P w) es vs → es.map (·.val) = vs.map (·.2)
  | [], vs, hp => by cases hp; rfl
  | e :: es, vs, hp => by
    cases hp with
    | cons h1 h1v h2 =>
      rw [List.map_cons, List.map_cons, vals_pairs h2, h1v]
theorem kv_vals : ∀ {kvs : List (Key × V)} {vs : List (Key × Value)}, KV kvs vs → Vals (kvs.map (·.2)) (vs.map (·.2))
  | [], _, r => by cases r; exact .nil
  | _ :: _, _, r => by
    cases r with
    | cons h t => exact .cons h.2 (kv_vals t)
theorem DnV.reads (I : Inv X pins σ H s) {v : V} {d : PyData} {u : Value} (h : DnV H v d) (r : RelV v u) : ∃ as, Reads s.heap u d as ∧ sysModules ∉ as := by
  cases h with
  | dv h1 h2 =>
    obtain ⟨as, q, n⟩ := Dv.reads I _ _ _ h1 r
    exact ⟨as, q, n h2⟩
  | @dk A a kvs ns ds h1 h2 h3 h4 =>
    obtain rfl : u = Value.ref a := r
    obtain ⟨_, lo, vs, rk, o, es, ep, ho, hx, hd, _, hp, _⟩ := (show ObjOk X.prog X.w H s.heap a (.dK kvs) from I.hok a _ h1)
    have hk : vs.map (·.1) = ns.map Sum.inl := by rw [← h2]; exact (KV.keys rk).symm
    obtain ⟨as, q, n⟩ := Dv.readsAll I ds _ _ h3 (kv_vals rk)
    have hl : ns.length = ds.length := by
      have e1 := h3.length
      have e2 := congrArg List.length h2
      rw [List.length_map] at e1
      rw [List.length_map, List.length_map] at e2
      omega
    have f1 : ((ns.map PyData.int).zip ds).map (·.1) = ns.map PyData.int := List.map_fst_zip (by rw [List.length_map]; omega)
    have f2 : ((ns.map PyData.int).zip ds).map (·.2) = ds := List.map_snd_zip (by rw [List.length_map]; omega)
    refine ⟨a :: [] ++ as, .dict ho hx.1 hd (by rw [f1]; exact reads_keys hp hk) (by rw [f2, vals_pairs hp]; exact q), ?_⟩
    have ne : a ≠ sysModules := beq_eq_false_iff_ne.mp lo
    simp only [List.cons_append, List.nil_append, List.mem_cons, not_or]
    exact ⟨Ne.symm ne, n h4⟩
theorem DnAll.reads (I : Inv X pins σ H s) : ∀ {vs : List V} {ds : List PyData} {us : List Value}, DnAll H vs ds → Vals vs us → ∃ as, ReadsAll s.heap us ds as ∧ sysModules ∉ as
  | _, _, _, .nil, r => by
    cases r
    exact ⟨_, .nil, by simp⟩
  | _, _, _, .cons h t, r => by
    cases r with
    | cons r1 r2 =>
      obtain ⟨as, q1, n1⟩ := DnV.reads I h r1
      obtain ⟨bs, q2, n2⟩ := DnAll.reads I t r2
      exact ⟨_, .cons q1 q2, fun z => (List.mem_append.mp z).elim n1 n2⟩
end
def rReprD : List V → Hp → VK → Prop := fun xs H Q => ∃ (a : Addr) (vs : List V) (ds : List PyData), xs = [.ref a] ∧ H a = some (.lst vs) ∧ a ≠ sysModules ∧ DnAll H vs ds ∧ (PyData.list ds).showable = true ∧ (PyData.list ds).depth ≤ 40 ∧ (PyData.list ds).shown.length ≤ sizeLine ∧ Q (.str (PyData.list ds).shown) H
theorem call_reprD {X : Cx} (hg : X.A.guards = some []) (hu : X.A.units + 64 < cLine) : CallR X (.builtin "repr") rReprD := by
  intro pins s σ H xs us Q I r h
  obtain ⟨a, vs, ds, rfl, ha, hne, hd, hs, hp, hz, q⟩ := h
  obtain ⟨u, rfl, ru⟩ := vals1 r
  obtain rfl : u = Value.ref a := ru
  obtain ⟨its, rv, ⟨o, n, ho, hc, _, hdt⟩, _⟩ := I.list (SqL.of ha)
  obtain ⟨as, hr, no⟩ := DnAll.reads I hd rv
  have R : Reads s.heap (.ref a) (.list ds) (a :: as) := Reads.list ho hc hdt hr
  exact repr_of_reads' R hs (fun _ => by
    rw [List.mem_cons]
    rintro (z | z)
    · exact hne z.symm
    · exact no z) hg (by omega) (fun _ _ e => e) (fun h' t tk hk => ⟨.str (PyData.list ds).shown, H, I.kept (t' := tk) hk, ⟨t, rfl⟩, q⟩) hz
def rReprW : List V → Hp → VK → Prop := fun xs H Q => rReprV xs H Q ∨ rReprD xs H Q
theorem call_reprW {X : Cx} (hg : X.A.guards = some []) (hu : X.A.units + 64 < cLine) : CallR X (.builtin "repr") rReprW := or_call (call_reprV hg hu) (call_reprD hg hu)
end Ak

set_option maxHeartbeats 4000000
/-! AkKd: dicts of the module with text keys: in, not in, a subscript, their keys walked. -/
namespace Ak
open PySem PySem.Spec PyProof.Rows L2 He
/-- a dict of the module: its keys in their order, what stands at some keys, what is not there -/
structure KD (K : PySem.W.Frag) (w : World) (d : Addr) (ks : List Str) : Prop where
  dic : dicW K d = some (He.keysIn w.params ks)
theorem KD.obj {K : PySem.W.Frag} {w : World} {d : Addr} {ks : List Str} (h : KD K w d ks) : ∃ es n, KDict K w d es n ∧ es.toList.map He.keyOf = He.keysIn w.params ks := by
  obtain ⟨es, n, D⟩ := dicW_ok h.dic
  refine ⟨es, n, D, ?_⟩
  have e := h.dic
  unfold dicW at e
  rw [D.at_] at e
  simp only [D.low] at e
  exact Option.some.inj e
def KAt (K : PySem.W.Frag) (d : Addr) (x : Str) (v : V) : Prop := ∃ u, PySem.W.nsIn K d x = some (some u) ∧ RelV v u
def KNo (K : PySem.W.Frag) (d : Addr) (x : Str) : Prop := PySem.W.nsIn K d x = some none
def rInKD (K : PySem.W.Frag) (d : Addr) : R2 := fun x y H Q => ∃ z, x = .str z ∧ y = .ref d ∧ ((∃ v, KAt K d z v ∧ Q (.bl true) H) ∨ (KNo K d z ∧ Q (.bl false) H))
def rNiKD (K : PySem.W.Frag) (d : Addr) : R2 := fun x y H Q => ∃ z, x = .str z ∧ y = .ref d ∧ ((∃ v, KAt K d z v ∧ Q (.bl false) H) ∨ (KNo K d z ∧ Q (.bl true) H))
def rIxKD (K : PySem.W.Frag) (d : Addr) : R2 := fun x y H Q => ∃ z v, x = .ref d ∧ y = .str z ∧ KAt K d z v ∧ Q v H
section
variable {X : Cx} {K : PySem.W.Frag} {w : World} {d : Addr} {ks : List Str}
theorem opInKD (D : KD K w d ks) (hK : X.K = K) (hw : X.w = w) : OpR X (compareOp .In) (rInKD K d) := by
  subst hK hw
  obtain ⟨es, n, D, _⟩ := D.obj
  intro pins s σ H x y v u Q I rx ry h
  obtain ⟨z, e1, e2, h⟩ := h
  refine op_in_kd D pins s σ H x y v u Q I rx ry ?_
  rcases h with ⟨v0, ⟨u0, h0, _⟩, q⟩ | ⟨h0, q⟩
  · exact ⟨z, _, e1, e2, h0, q⟩
  · exact ⟨z, _, e1, e2, h0, q⟩
theorem opNiKD (D : KD K w d ks) (hK : X.K = K) (hw : X.w = w) : OpR X (compareOp .NotIn) (rNiKD K d) := by
  subst hK hw
  obtain ⟨es, n, D, _⟩ := D.obj
  intro pins s σ H x y v u Q I rx ry h
  obtain ⟨z, e1, e2, h⟩ := h
  refine op_notIn_kd D pins s σ H x y v u Q I rx ry ?_
  rcases h with ⟨v0, ⟨u0, h0, _⟩, q⟩ | ⟨h0, q⟩
  · exact ⟨z, _, e1, e2, h0, q⟩
  · exact ⟨z, _, e1, e2, h0, q⟩
theorem ixKD (D : KD K w d ks) (hK : X.K = K) (hw : X.w = w) : IxR X (rIxKD K d) := by
  subst hK hw
  obtain ⟨es, n, D, _⟩ := D.obj
  intro value slice pins s σ H x y v u Q I rx ry h hs
  obtain ⟨z, v0, e1, e2, ⟨u0, h0, r0⟩, q⟩ := h
  exact ix_kdict value slice pins s σ H x y v u Q I rx ry ⟨d, z, v0, e1, e2, ⟨es, n, u0, D.at_, D.lit, h0, r0⟩, q⟩ hs
/-! ### its keys, walked -/
def ItkK (ks : List Str) : It := ⟨fun i _ => i < ks.length, fun i H x H' => H' = H ∧ ∃ k, ks[i]? = some k ∧ x = .str k, fun i _ => ks.length ≤ i⟩
theorem turn_keysKD {P : Program} {tg : Expr} {es : Array DictEntry} {ep : Nat} (it : Addr) (hl : K.lookup d = some ⟨.type "dict", none, .dict es ep, #[]⟩) (hk : es.toList.map He.keyOf = He.keysIn w.params ks) :
    L2.Turn P w K tg (ItkK ks) [it] it (fun i h => h.IsKeyIter it d i ks.length ep) where
  mem := by simp
  obj := fun i h st b hb => by
    have e : b = it := by simpa using hb
    subst e
    obtain ⟨oi, e, c, dd⟩ := st
    exact ⟨oi, e, fun v z => by rw [dd] at z; cases z⟩
  keep := fun i h h' st k => st.at fun oi e => k it (by simp) oi e
  item := by
    intro X hP hw hK hc i pins s σ H E I hf st hi
    subst hP hw hK
    have hi' : i < ks.length := hi
    obtain ⟨f0, f1, f2, f3, f4, f5⟩ := hf it (by simp)
    have hsz : es.size = ks.length := by
      have := congrArg List.length hk
      simpa [He.keysIn] using this
    have hen : es[i]? = some es[i] := Array.getElem?_eq_getElem (by omega)
    have hkey : He.keyOf es[i] = some (ks[i], PyData.keyHash X.w.params ks[i]) := by
      have e := congrArg (fun l => l[i]?) hk
      simp only [He.keysIn, List.getElem?_map, List.getElem?_eq_getElem hi', Array.getElem?_toList, hen, Option.map_some] at e
      exact Option.some.inj e
    have hks : ∃ t, es[i].key = .str ks[i] t := by
      unfold He.keyOf at hkey
      split at hkey
      · rename_i x t q
        have h4 := Option.some.inj hkey
        obtain ⟨h5, h6⟩ := Prod.mk.inj h4
        exact ⟨t, by rw [q, h5]⟩
      · cases hkey
    refine next_key_item st (I.kIn d _ hl) rfl hsz hen fun h' st' sb => ?_
    have I1 : Inv X pins σ H { s with heap := h' } := I.turned (t' := s.toks) (fun b ob hb e => (sb.2 b hb).trans e) f0 f1 f3 f4 f5
    obtain ⟨oi, e, c, dd⟩ := id st'
    exact ⟨es[i].key, rfl, go_of (s := { s with heap := h' }) e c dd (by decide) ⟨.str ks[i], H, I1, hks, ⟨rfl, ks[i], List.getElem?_eq_getElem hi', rfl⟩, st', fun b hb => (hf b hb).1⟩⟩
  done := by
    intro X hP hw hK hc i pins s σ H E I hf st hi
    subst hP hw hK
    have hi' : ks.length ≤ i := hi
    obtain ⟨f0, f1, f2, f3, f4, f5⟩ := hf it (by simp)
    have hsz : es.size = ks.length := by
      have := congrArg List.length hk
      simpa [He.keysIn] using this
    exact next_key_end (I.ok.hd hc) st (I.kIn d _ hl) rfl hsz hi' fun h' eb => ⟨rfl, I.turned (t' := s.toks) (fun b ob hb e => eb b ob hb e) f0 f1 f3 f4 f5⟩
  self := fun A i s Q E st h => wpAny_pyIter_keyiter st h
def iKeysKD (d : Addr) (ks : List Str) (td : TE) : TI := fun σ H R => td σ H fun x H1 => x = .ref d ∧ R (ItkK ks) H1
theorem pi_keysKD {tg e : Expr} {td : TE} (D : KD K w d ks) (hK : X.K = K) (hw : X.w = w) (he : PE X e td) : PI X tg e (iKeysKD d ks td) := by
  subst hK hw
  obtain ⟨es, n, D, hk⟩ := D.obj
  refine ⟨fun pins s σ H R I h => ?_⟩
  refine thn (he.run pins s σ H _ I h) fun u s1 ⟨x, H1, I1, rx, ex, q⟩ => ?_
  subst ex
  obtain rfl : u = Value.ref d := rx
  have hsz : es.size = ks.length := by
    have := congrArg List.length hk
    simpa [He.keysIn] using this
  refine iter_keys D.low (I1.kIn d _ D.at_) ⟨rfl, rfl, rfl⟩ rfl (pi_one (tk := s1.toks) I1 _ (turn_keysKD _ D.at_ hk) ⟨_, Heap.get?_push_size _ rfl, rfl, ?_⟩ q)
  rw [hsz] <;> rfl
end
end Ak

set_option maxHeartbeats 4000000
/-! AkKt: what is kept: tuples; all but the pot. -/
namespace Ak
open PySem PySem.Spec PyProof.Rows L2 TL
abbrev AT : Addr → Prop := fun _ => True
/-- tuples are kept -/
def Kt (H H' : Hp) : Prop := ∀ b o xs, TupU o xs → H b = some o → H' b = some o
theorem Kt.refl (H : Hp) : Kt H H := fun _ _ _ _ e => e
theorem Kt.of {H H' : Hp} (s : Same H H') : Kt H H' := fun b o _ _ e => s b o e
theorem Kt.trans {H H1 H2 : Hp} (a : Kt H H1) (b : Kt H1 H2) : Kt H H2 := fun c o xs u e => b c o xs u (a c o xs u e)
theorem Kt.upd {H : Hp} {a : Addr} {o u : HO} (h : H a = some u) (n : ∀ xs, ¬ TupU u xs) : Kt H (L2.upd H a o) := fun b p xs t e => by
  have nb : b ≠ a := fun z => by
    subst z
    rw [h] at e
    cases e
    exact n xs t
  rw [upd_ne nb]
  exact e
theorem not_tupU_dK {kvs : List (Key × V)} : ∀ xs, ¬ TupU (.dK kvs) xs := fun xs h => h.elim (fun e => nomatch e) fun ⟨_, e⟩ => nomatch e
theorem not_tupU_lst {ys : List V} : ∀ xs, ¬ TupU (.lst ys) xs := fun xs h => h.elim (fun e => nomatch e) fun ⟨_, e⟩ => nomatch e
theorem Kt.tq {H H' : Hp} {a : Addr} {xs : List V} (k : Kt H H') (h : Tq H a xs) : Tq H' a xs := by
  obtain ⟨o, e, u⟩ := h
  exact ⟨o, k _ _ _ u e, u⟩
theorem Kt.sq {K : PySem.W.Frag} {H H' : Hp} {a : Addr} {xs : List V} (k : Kt H H') (h : SqT K H a xs) : SqT K H' a xs := by
  rcases h with (h | ⟨o, h⟩) | h
  · exact .inl (.inl (k _ _ xs (.inl rfl) h))
  · exact .inl (.inr ⟨o, k _ _ xs (.inr ⟨o, rfl⟩) h⟩)
  · exact .inr h
mutual
/-- no list, no dict within -/
def tupOnly : PyData → Bool
  | .list _ => false
  | .dict _ => false
  | .tuple xs => tupOnlyAll xs
  | _ => true
def tupOnlyAll : List PyData → Bool
  | [] => true
  | x :: xs => tupOnly x && tupOnlyAll xs
end
mutual
theorem Dv_kt {H H' : Hp} {A : Addr → Prop} (k : Kt H H') : ∀ {v : V} {d : PyData}, tupOnly d = true → Dv H A v d → Dv H' A v d
  | _, _, _, .non => .non
  | _, _, _, .bl b => .bl b
  | _, _, _, .int i => .int i
  | _, _, _, .str x => .str x
  | _, _, f, .lst _ _ _ => by simp [tupOnly] at f
  | _, _, f, .tupq ha h1 h2 => .tupq ha (k.tq h1) (DvAll_kt k (by simpa only [tupOnly] using f) h2)
  | _, _, f, .dct _ _ => by simp [tupOnly] at f
theorem DvAll_kt {H H' : Hp} {A : Addr → Prop} (k : Kt H H') : ∀ {vs : List V} {ds : List PyData}, tupOnlyAll ds = true → DvAll H A vs ds → DvAll H' A vs ds
  | _, _, _, .nil => .nil
  | _, _, f, .cons a r => by
    simp only [tupOnlyAll, Bool.and_eq_true] at f
    exact .cons (Dv_kt k f.1 a) (DvAll_kt k f.2 r)
end
theorem strs_tupOnly : ∀ ss : List Str, tupOnlyAll (ss.map PyData.str) = true
  | [] => rfl
  | s :: ss => by
    show (true && tupOnlyAll (ss.map PyData.str)) = true
    rw [strs_tupOnly ss]
    rfl
/-- the pot at p -/
def Pot (H : Hp) (p : Addr) : Prop := ∃ a b : Int, H p = some (.lst [.int a, .int b]) ∧ 0 ≤ a ∧ 0 ≤ b ∧ b < 2147483648
/-- all but the pot is as it was, and there is a pot -/
def SX (p : Addr) (H H' : Hp) : Prop := (∀ b o, b ≠ p → H b = some o → H' b = some o) ∧ Pot H' p
theorem SX.refl {p : Addr} {H : Hp} (h : Pot H p) : SX p H H := ⟨fun _ _ _ h => h, h⟩
theorem SX.trans {p : Addr} {H H1 H2 : Hp} (a : SX p H H1) (b : SX p H1 H2) : SX p H H2 := ⟨fun x o n h => b.1 x o n (a.1 x o n h), b.2⟩
theorem Pot.same {p : Addr} {H H' : Hp} (s : Same H H') (h : Pot H p) : Pot H' p := by
  obtain ⟨a, b, h1, r⟩ := h
  exact ⟨a, b, s _ _ h1, r⟩
theorem SX.of {p : Addr} {H H' : Hp} (h : Pot H p) (s : Same H H') : SX p H H' := ⟨fun b o _ h => s b o h, h.same s⟩
theorem SX.then {p : Addr} {H H1 H2 : Hp} (a : SX p H H1) (s : Same H1 H2) : SX p H H2 := a.trans (.of a.2 s)
theorem Pot.ne {p a : Addr} {H : Hp} (h : Pot H p) (ha : H a = none) : a ≠ p := by
  obtain ⟨x, y, h1, _⟩ := h
  rintro rfl
  rw [h1] at ha
  cases ha
theorem SX.put {p : Addr} {H : Hp} {a b : Int} (h1 : 0 ≤ a) (h2 : 0 ≤ b) (h3 : b < 2147483648) : SX p H (upd H p (.lst [.int a, .int b])) := ⟨fun x o n e => by rw [upd_ne n]; exact e, a, b, upd_same, h1, h2, h3⟩
theorem SX.kt {p : Addr} {H H' : Hp} (s : SX p H H') (h : Pot H p) : Kt H H' := fun b o xs u e => s.1 b o (by
  rintro rfl
  obtain ⟨x, y, h1, _⟩ := h
  rw [h1] at e
  cases e
  exact not_tupU_lst xs u) e
theorem tq_of {H : Hp} {a : Addr} {ys xs : List V} (h : H a = some (.lst ys)) : ¬ Tq H a xs := by
  rintro ⟨o, e, u⟩
  rw [h] at e
  cases e
  exact not_tupU_lst xs u
mutual
theorem Dv_tq {H : Hp} {A : Addr → Prop} : ∀ {v : V} {d : PyData}, tupOnly d = true → Dv H A v d → Dv H (fun b => A b ∧ ∃ xs, Tq H b xs) v d
  | _, _, _, .non => .non
  | _, _, _, .bl b => .bl b
  | _, _, _, .int i => .int i
  | _, _, _, .str x => .str x
  | _, _, f, .lst _ _ _ => by simp [tupOnly] at f
  | _, _, f, .tupq ha h1 h2 => .tupq ⟨ha, _, h1⟩ h1 (DvAll_tq (by simpa only [tupOnly] using f) h2)
  | _, _, f, .dct _ _ => by simp [tupOnly] at f
theorem DvAll_tq {H : Hp} {A : Addr → Prop} : ∀ {vs : List V} {ds : List PyData}, tupOnlyAll ds = true → DvAll H A vs ds → DvAll H (fun b => A b ∧ ∃ xs, Tq H b xs) vs ds
  | _, _, _, .nil => .nil
  | _, _, f, .cons a r => by
    simp only [tupOnlyAll, Bool.and_eq_true] at f
    exact .cons (Dv_tq f.1 a) (DvAll_tq f.2 r)
end
theorem Dv.offL {H : Hp} {A : Addr → Prop} {D : Addr} {ys : List V} (h : H D = some (.lst ys)) {v : V} {d : PyData} (f : tupOnly d = true) (hv : Dv H A v d) : Dv H (fun b => b ≠ D ∧ A b) v d :=
  (Dv_tq f hv).to fun b q => ⟨fun e => by
    obtain ⟨xs, hx⟩ := q.2
    exact tq_of h (e ▸ hx), q.1⟩
theorem SX.seq {K : PySem.W.Frag} {p a : Addr} {H H' : Hp} {xs : List V} (s : SX p H H') (n : a ≠ p) (h : SqL K H a xs) : SqL K H' a xs := by
  rcases h with (h | ⟨o, h⟩) | h
  · exact .inl (.inl (s.1 _ _ n h))
  · exact .inl (.inr ⟨o, s.1 _ _ n h⟩)
  · exact .inr h
theorem SX.tup {K : PySem.W.Frag} {p a : Addr} {H H' : Hp} {xs : List V} (s : SX p H H') (n : a ≠ p) (h : SqT K H a xs) : SqT K H' a xs := by
  rcases h with (h | ⟨o, h⟩) | h
  · exact .inl (.inl (s.1 _ _ n h))
  · exact .inl (.inr ⟨o, s.1 _ _ n h⟩)
  · exact .inr h
section
variable {g : TG} {tt : TT} {te : TE} {σ : L2.St} {H1 : Hp} {vs : List Nat} {J : It} {n : Nat} {G : Hp → Prop} {Y : Nat → Hp → V → Hp → Prop} {D : Addr} {Qd : Hp → Prop}
/-- each turn gives a plain value, the pot may be used -/
theorem lcX {p : Addr} (w : Walk J n G Y) (G0 : V → Prop) (hz : n < sizeLine) (hP : Pot H1 p) (hG : ∀ H, SX p H1 H → G H) (hY : ∀ j x H H', j < n → SX p H1 H → Y j H x H' → SX p H H')
    (he : ∀ j x H H', j < n → SX p H1 H → Y j H x H' → ∀ (Q : VK) (R : Hp → Prop), (∀ H2 v, SX p H' H2 → G0 v → Q v H2) → g x (wipe σ vs) H' fun σ2 H2 => wipe σ2 vs = wipe σ vs ∧ tt σ2 H2 fun b H3 => if b = true then te σ2 H3 Q else R H3)
    (hD : H1 D = none) (hd : ∀ H' acc, SX p H1 H' → H' D = some (.lst acc) → acc.length = n → (∀ v ∈ acc, G0 v) → Qd H') :
    ∃ W : Nat → Nat → Hp → Prop, (∃ m, W 0 m (upd H1 D (.lst []))) ∧ ∀ j m H, W j m H →
      (J.stop j H ∧ Qd H) ∨ (J.go j H ∧ ∃ Nx : Hp → Prop, (∀ H', Nx H' → ∃ m', m' < m ∧ W (j + 1) m' H') ∧ ∀ x H', J.yld j H x H' → g x (wipe σ vs) H' fun σ2 H2 => wipe σ2 vs = wipe σ vs ∧ tt σ2 H2 fun b H3 =>
        if b = true then te σ2 H3 fun y H4 => ∃ acc, H4 D = some (.lst acc) ∧ acc.length < sizeLine ∧ Nx (upd H4 D (.lst (acc ++ [y]))) else Nx H3) := by
  have nD := hP.ne hD
  refine lc_it (g := g) w (fun j H => SX p H1 H ∧ ∃ acc, H D = some (.lst acc) ∧ acc.length = j ∧ ∀ v ∈ acc, G0 v) ⟨.of hP (same_new hD), [], upd_same, rfl, by simp⟩ (fun j H _ e => hG _ e.1) ?_ ?_
  · rintro j x H H' hj ⟨s1, acc, hL, hl, hA⟩ y
    have sY := hY j x H H' hj s1 y
    refine he j x H H' hj s1 y _ _ (fun H2 v s2 hv => ?_)
    have s3 := sY.trans s2
    refine ⟨_, s3.1 _ _ nD hL, by omega, ⟨fun b o nb eb => ?_, ?_⟩, _, upd_same, by simp [hl], fun z hz => ?_⟩
    · rw [upd_ne (ne_of_none eb hD)]
      exact s3.1 _ _ nb (s1.1 _ _ nb eb)
    · obtain ⟨a, b, h1, r⟩ := s3.2
      exact ⟨a, b, by rw [upd_ne (Ne.symm nD)]; exact h1, r⟩
    · rcases List.mem_append.mp hz with h | h
      · exact hA z h
      · rw [List.mem_singleton.mp h]
        exact hv
  · rintro H ⟨s1, acc, hL, hl, hA⟩
    exact hd H acc s1 hL hl hA
end
end Ak

set_option maxHeartbeats 4000000
/-! AkLoop: while loops by a measure in the invariant; tests of several parts. -/
namespace Ak
open PySem PySem.Spec PyProof.Rows L2 TL
def TurnR (Pv : Nat → L2.St → Hp → Prop) (m : Nat) (tb : TS) (D : Ends) (σ : L2.St) (H1 : Hp) : Prop :=
  ∃ N : L2.St → Hp → Prop, (∀ σ' H', N σ' H' → ∃ m', m' < m ∧ Pv m' σ' H') ∧ tb { D with nx := N, ct := N, bk := D.nx } σ H1
theorem turn_r {Pv : Nat → L2.St → Hp → Prop} {m : Nat} {t : TS} {D : Ends} {σ : L2.St} {H : Hp} (q : t { D with nx := fun σ' H' => ∃ m', m' < m ∧ Pv m' σ' H', ct := fun σ' H' => ∃ m', m' < m ∧ Pv m' σ' H', bk := D.nx } σ H) : TurnR Pv m t D σ H :=
  ⟨_, fun _ _ h => h, q⟩
theorem r_whileR {c : TT} {t : TS} {D : Ends} {σ : L2.St} {H : Hp} (Pv : Nat → L2.St → Hp → Prop) (m0 : Nat) (h0 : Pv m0 σ H) (hs : ∀ m σ H, Pv m σ H → c σ H fun b H1 => if b = true then TurnR Pv m t D σ H1 else D.nx σ H1) : tWhile c t D σ H :=
  ⟨Pv, ⟨m0, h0⟩, fun m σ H p => hs m σ H p⟩
theorem dv_last {H : Hp} {A : Addr → Prop} {u : V} : ∀ {vs : List V} {ds : List PyData}, DvAll H A (vs ++ [u]) ds → ∃ ds0 e, ds = ds0 ++ [e] ∧ DvAll H A vs ds0 ∧ Dv H A u e
  | [], _, .cons h .nil => ⟨[], _, rfl, .nil, h⟩
  | x :: vs, _, .cons h r => by
    obtain ⟨ds0, e, rfl, h1, h2⟩ := dv_last (vs := vs) r
    exact ⟨_ :: ds0, e, rfl, .cons h h1, h2⟩
theorem ifS_and2 {c1 c2 : TT} {X Y : TS} {D : Ends} {σ : L2.St} {H : Hp} {b1 b2 : Bool} (h1 : ∀ Q : Bool → Hp → Prop, Q b1 H → c1 σ H Q) (h2 : ∀ Q : Bool → Hp → Prop, Q b2 H → c2 σ H Q)
    (hX : b1 = true → b2 = true → X D σ H) (hY : (b1 && b2) = false → Y D σ H) : tIfS (tAnd c1 c2) X Y D σ H := by
  refine r_ifS (r_and (h1 _ ?_))
  cases b1 with
  | false => exact hY rfl
  | true =>
    refine h2 _ ?_
    cases b2 with
    | false => exact hY rfl
    | true => exact hX rfl rfl
theorem ifS_and3 {c1 c2 c3 : TT} {X Y : TS} {D : Ends} {σ : L2.St} {H : Hp} {b1 b2 r : Bool} (h1 : ∀ Q : Bool → Hp → Prop, Q b1 H → c1 σ H Q) (h2 : ∀ Q : Bool → Hp → Prop, Q b2 H → c2 σ H Q)
    (h3 : b1 = true → b2 = true → ∀ Q : Bool → Hp → Prop, (∀ H', Same H H' → Q r H') → c3 σ H Q)
    (hX : b1 = true → b2 = true → r = true → ∀ H', Same H H' → X D σ H') (hY : (b1 && (b2 && r)) = false → ∀ H', Same H H' → Y D σ H') : tIfS (tAnd c1 (tAnd c2 c3)) X Y D σ H := by
  refine r_ifS (r_and (h1 _ ?_))
  cases b1 with
  | false => exact hY rfl _ (Same.refl _)
  | true =>
    refine r_and (h2 _ ?_)
    cases b2 with
    | false => exact hY rfl _ (Same.refl _)
    | true =>
      refine h3 rfl rfl _ fun H' s' => ?_
      cases r with
      | false => exact hY rfl _ s'
      | true => exact hX rfl rfl rfl _ s'
theorem ifS_orn {c1 c2 c3 : TT} {X Y : TS} {D : Ends} {σ : L2.St} {H : Hp} {b1 b2 : Bool} (h1 : ∀ Q : Bool → Hp → Prop, Q b1 H → c1 σ H Q) (h2 : ∀ Q : Bool → Hp → Prop, Q b2 H → c2 σ H Q)
    (hY : b1 = true → b2 = true → Y D σ H) (hc : (b1 && b2) = false → tIfS (tNot c3) X Y D σ H) : tIfS (tNot (tOr (tAnd c1 c2) c3)) X Y D σ H := by
  refine r_ifS (r_not (r_or (r_and (h1 _ ?_))))
  cases b1 with
  | false => exact hc rfl
  | true =>
    refine h2 _ ?_
    cases b2 with
    | false => exact hc rfl
    | true => exact hY rfl rfl
theorem ifSn_and3 {c1 c2 c3 : TT} {X Y : TS} {D : Ends} {σ : L2.St} {H : Hp} {b1 b2 r : Bool} (h1 : ∀ Q : Bool → Hp → Prop, Q b1 H → c1 σ H Q) (h2 : ∀ Q : Bool → Hp → Prop, Q b2 H → c2 σ H Q)
    (h3 : b1 = true → b2 = true → ∀ Q : Bool → Hp → Prop, (∀ H', Same H H' → Q r H') → c3 σ H Q)
    (hX : (b1 && (b2 && r)) = true → ∀ H', Same H H' → Y D σ H') (hY : (b1 && (b2 && r)) = false → ∀ H', Same H H' → X D σ H') : tIfS (tNot (tAnd c1 (tAnd c2 c3))) X Y D σ H := by
  refine r_ifS (r_not (r_and (h1 _ ?_)))
  cases b1 with
  | false => exact hY rfl _ (Same.refl _)
  | true =>
    refine r_and (h2 _ ?_)
    cases b2 with
    | false => exact hY rfl _ (Same.refl _)
    | true =>
      refine h3 rfl rfl _ fun H' s' => ?_
      cases r with
      | false => exact hY rfl _ s'
      | true => exact hX rfl _ s'
theorem len2 {α : Type} {l : List α} (h : l.length = 2) : ∃ a b, l = [a, b] := by
  match l, h with
  | [a, b], _ => exact ⟨a, b, rfl⟩
theorem at0 (x : V) (xs : List V) : atI (x :: xs) 0 = some x := by
  unfold atI
  rw [show ixN (x :: xs).length 0 = some 0 by simp [ixN]]
  rfl
theorem ty_l {K : PySem.W.Frag} {H : Hp} {p : Addr} {vs : List V} (h : H p = some (.lst vs)) : tyV K "list" (.ref p) H := .inl ⟨rfl, vs, SqL.of h⟩
theorem same_upd {H H1 : Hp} {p : Addr} {o : HO} (h : H p = none) (s : Same H H1) : Same H (upd H1 p o) := by
  intro b x e
  rw [upd_ne (ne_of_none e h)]
  exact s _ _ e
mutual
theorem Dv_dp {K : PySem.W.Frag} {H : Hp} {A : Addr → Prop} : ∀ {v : V} {d : PyData}, tupOnly d = true → Dv H A v d → Dp K H v d
  | _, _, _, .non => .non
  | _, _, _, .bl b => .bl b
  | _, _, _, .int i => .int i
  | _, _, _, .str x => .str x
  | _, _, f, .lst _ _ _ => by simp [tupOnly] at f
  | _, _, f, .tupq ha h1 h2 => .tup h1.sq (DvAll_dp (by simpa only [tupOnly] using f) h2)
  | _, _, f, .dct _ _ => by simp [tupOnly] at f
theorem DvAll_dp {K : PySem.W.Frag} {H : Hp} {A : Addr → Prop} : ∀ {vs : List V} {ds : List PyData}, tupOnlyAll ds = true → DvAll H A vs ds → DpAll K H vs ds
  | _, _, _, .nil => .nil
  | _, _, f, .cons a r => by
    simp only [tupOnlyAll, Bool.and_eq_true] at f
    exact .cons (Dv_dp f.1 a) (DvAll_dp f.2 r)
end
theorem same_none {H H1 : Hp} {a : Addr} (s : Same H H1) (h : H1 a = none) : H a = none := by
  cases e : H a with
  | none => rfl
  | some o =>
    rw [s _ _ e] at h
    cases h
/-- the parts of a known tuple -/
theorem Dv.tup1 {H : Hp} {A : Addr → Prop} {v : V} {d : PyData} (h : Dv H A v (.tuple [d])) : ∃ p x, v = .ref p ∧ Tq H p [x] ∧ Dv H A x d := by
  obtain ⟨p, es, e, _, ht, hes⟩ := h.tup_inv
  cases hes with
  | cons h1 r => cases r; exact ⟨p, _, e, ht, h1⟩
theorem Dv.tup2 {H : Hp} {A : Addr → Prop} {v : V} {d d' : PyData} (h : Dv H A v (.tuple [d, d'])) : ∃ p x y, v = .ref p ∧ Tq H p [x, y] ∧ Dv H A x d ∧ Dv H A y d' := by
  obtain ⟨p, es, e, _, ht, hes⟩ := h.tup_inv
  cases hes with
  | cons h1 r => cases r with
    | cons h2 r2 => cases r2; exact ⟨p, _, _, e, ht, h1, h2⟩
theorem Dv.tup3 {H : Hp} {A : Addr → Prop} {v : V} {a b c : PyData} (h : Dv H A v (.tuple [a, b, c])) : ∃ p x y z, v = .ref p ∧ Tq H p [x, y, z] ∧ Dv H A x a ∧ Dv H A y b ∧ Dv H A z c := by
  obtain ⟨p, es, e, _, ht, hes⟩ := h.tup_inv
  cases hes with
  | cons h1 r => cases r with
    | cons h2 r2 => cases r2 with
      | cons h3 r3 => cases r3; exact ⟨p, _, _, _, e, ht, h1, h2, h3⟩
end Ak

set_option maxHeartbeats 4000000
/-! AkDp: data of tuples alone, some of them of the module. -/
namespace Ak
open PySem PySem.Spec PyProof.Rows L2 TL
theorem _root_.L2.Dp.same {K : PySem.W.Frag} {H H' : Hp} {v : V} {d : PyData} (h : L2.Dp K H v d) (s : Same H H') : L2.Dp K H' v d := Ak.Dp.same s h
theorem _root_.L2.DpAll.same {K : PySem.W.Frag} {H H' : Hp} {v : List V} {d : List PyData} (h : L2.DpAll K H v d) (s : Same H H') : L2.DpAll K H' v d := Ak.DpAll.same s h
theorem _root_.L2.DpAll.length {K : PySem.W.Frag} {H : Hp} {v : List V} {d : List PyData} (h : L2.DpAll K H v d) : v.length = d.length := Ak.DpAll.length h
theorem _root_.L2.DpAll.app {K : PySem.W.Frag} {H : Hp} {v v' : List V} {d d' : List PyData} (h : L2.DpAll K H v d) (h' : L2.DpAll K H v' d') : L2.DpAll K H (v ++ v') (d ++ d') := Ak.DpAll.app h h'
mutual
theorem Dp_kt {K : PySem.W.Frag} {H H' : Hp} (k : Kt H H') : ∀ {v : V} {d : PyData}, tupOnly d = true → Dp K H v d → Dp K H' v d
  | _, _, _, .non => .non
  | _, _, _, .bl b => .bl b
  | _, _, _, .int i => .int i
  | _, _, _, .str x => .str x
  | _, _, f, .lst _ _ => by simp [tupOnly] at f
  | _, _, f, .tup h1 h2 => .tup (k.sq h1) (DpAll_kt k (by simpa only [tupOnly] using f) h2)
theorem DpAll_kt {K : PySem.W.Frag} {H H' : Hp} (k : Kt H H') : ∀ {vs : List V} {ds : List PyData}, tupOnlyAll ds = true → DpAll K H vs ds → DpAll K H' vs ds
  | _, _, _, .nil => .nil
  | _, _, f, .cons a r => by
    simp only [tupOnlyAll, Bool.and_eq_true] at f
    exact .cons (Dp_kt k f.1 a) (DpAll_kt k f.2 r)
end
section
variable {K : PySem.W.Frag} {H H' : Hp} {v : V}
theorem dp_tup {ds : List PyData} (h : Dp K H v (.tuple ds)) : ∃ p xs, v = .ref p ∧ SqT K H p xs ∧ DpAll K H xs ds := by
  cases h with
  | tup a b => exact ⟨_, _, rfl, a, b⟩
theorem dp_int {i : Int} (h : Dp K H v (.int i)) : v = .int i := by cases h; rfl
theorem dp_str {x : Str} (h : Dp K H v (.str x)) : v = .str x := by cases h; rfl
theorem dp_bl {b : Bool} (h : Dp K H v (.bool b)) : v = .bl b := by cases h; rfl
theorem dp_tup1 {d : PyData} (h : Dp K H v (.tuple [d])) : ∃ p x, v = .ref p ∧ SqT K H p [x] ∧ Dp K H x d := by
  obtain ⟨p, es, e, ht, hes⟩ := dp_tup h
  cases hes with
  | cons h1 r => cases r; exact ⟨p, _, e, ht, h1⟩
theorem dp_tup2 {d d' : PyData} (h : Dp K H v (.tuple [d, d'])) : ∃ p x y, v = .ref p ∧ SqT K H p [x, y] ∧ Dp K H x d ∧ Dp K H y d' := by
  obtain ⟨p, es, e, ht, hes⟩ := dp_tup h
  cases hes with
  | cons h1 r => cases r with
    | cons h2 r2 => cases r2; exact ⟨p, _, _, e, ht, h1, h2⟩
theorem dp_tup3 {a b c : PyData} (h : Dp K H v (.tuple [a, b, c])) : ∃ p x y z, v = .ref p ∧ SqT K H p [x, y, z] ∧ Dp K H x a ∧ Dp K H y b ∧ Dp K H z c := by
  obtain ⟨p, es, e, ht, hes⟩ := dp_tup h
  cases hes with
  | cons h1 r => cases r with
    | cons h2 r2 => cases r2 with
      | cons h3 r3 => cases r3; exact ⟨p, _, _, _, e, ht, h1, h2, h3⟩
theorem dp_last {u : V} : ∀ {vs : List V} {ds : List PyData}, DpAll K H (vs ++ [u]) ds → ∃ ds0 e, ds = ds0 ++ [e] ∧ DpAll K H vs ds0 ∧ Dp K H u e
  | [], _, .cons h .nil => ⟨[], _, rfl, .nil, h⟩
  | x :: vs, _, .cons h r => by
    obtain ⟨ds0, e, rfl, h1, h2⟩ := dp_last (vs := vs) r
    exact ⟨_ :: ds0, e, rfl, .cons h h1, h2⟩
theorem dp_at {x : V} : ∀ {vs : List V} {ds : List PyData} {i : Nat}, DpAll K H vs ds → vs[i]? = some x → ∃ d, ds[i]? = some d ∧ Dp K H x d
  | _, _, 0, .cons h _, e => by
    obtain rfl := Option.some.inj e
    exact ⟨_, rfl, h⟩
  | _, _, i + 1, .cons _ r, e => dp_at (i := i) r e
theorem only_getD {L : List PyData} (h : tupOnlyAll L = true) (j : Nat) : tupOnly (L.getD j .none) = true := by
  induction L generalizing j with
  | nil => rfl
  | cons d L ih =>
    simp only [tupOnlyAll, Bool.and_eq_true] at h
    cases j with
    | zero => exact h.1
    | succ j => exact ih h.2 j
theorem ty_tupS {p : Addr} {xs : List V} (h : SqT K H p xs) : TyX K H (.ref p) (.type "tuple") := by
  rcases h with (h | ⟨o, h⟩) | ⟨oo, its, n, h1, h2, h3, _⟩
  · exact .base (.tup h)
  · exact .fTuple h
  · exact .kTuple h1 h2
theorem b_isTupS {p : Addr} {xs : List V} {Q : VK} (h : SqT K H p xs) (q : Q (.bl true) H) : rIsB K [.ref p, .ty "tuple"] H Q := .inl (q_isiX (ty_tupS h) (by decide +kernel) q)
theorem b_isTL_T {p q0 : Addr} {xs : List V} {Q : VK} (h : SqT K H p xs) (hp : H q0 = some (.tup [.ty "list", .ty "tuple"])) (q : Q (.bl true) H) : rIsB K [.ref p, .ref q0] H Q := by
  refine .inr ⟨.ref p, q0, _, .type "tuple", [.type "list", .type "tuple"], true, rfl, hp, .cons (.ty "list") (.cons (.ty "tuple") .nil), ty_tupS h, (by
    have k1 : PySem.W.kitOne K (.type "tuple") (.type "list") = some false := kit_ty (by decide +kernel)
    have k2 : PySem.W.kitOne K (.type "tuple") (.type "tuple") = some true := kit_ty (by decide +kernel)
    unfold PySem.W.kitAny PySem.W.kitAny PySem.W.kitAny
    rw [k1, k2]), q⟩
theorem b_isTL_L {p q0 : Addr} {xs : List V} {Q : VK} (h : H p = some (.lst xs)) (hp : H q0 = some (.tup [.ty "list", .ty "tuple"])) (q : Q (.bl true) H) : rIsB K [.ref p, .ref q0] H Q := by
  refine .inr ⟨.ref p, q0, _, .type "list", [.type "list", .type "tuple"], true, rfl, hp, .cons (.ty "list") (.cons (.ty "tuple") .nil), .base (.lst h), (by
    have k1 : PySem.W.kitOne K (.type "list") (.type "list") = some true := kit_ty (by decide +kernel)
    have k2 : PySem.W.kitOne K (.type "list") (.type "tuple") = some false := kit_ty (by decide +kernel)
    unfold PySem.W.kitAny PySem.W.kitAny PySem.W.kitAny
    rw [k1, k2]), q⟩
theorem b_isStrV {x : Str} {Q : VK} (q : Q (.bl true) H) : rIsB K [.str x, .ty "str"] H Q := .inl (q_isi_str q)
theorem b_isBlV {b : Bool} {Q : VK} (q : Q (.bl true) H) : rIsB K [.bl b, .ty "bool"] H Q := .inl (q_isi_yes (.bl b) (by decide +kernel) q)
theorem b_isIntV {i : Int} {Q : VK} (q : Q (.bl true) H) : rIsB K [.int i, .ty "int"] H Q := .inl (q_isi_yes (.int i) (by decide +kernel) q)
theorem b_isIntB {i : Int} {Q : VK} (q : Q (.bl false) H) : rIsB K [.int i, .ty "bool"] H Q := .inl (q_isi_no (.int i) (by decide +kernel) q)
end
section
variable {K : PySem.W.Frag} {g : TG} {tt : TT} {te : TE} {σ : L2.St} {H1 : Hp} {vs : List Nat} {J : It} {n : Nat} {G : Hp → Prop} {Y : Nat → Hp → V → Hp → Prop} {D : Addr} {Qd : Hp → Prop}
/-- a comprehension that makes known data of tuples -/
theorem lc_dp (w : Walk J n G Y) (f : Nat → PyData) (hf : ∀ j, tupOnly (f j) = true) (hz : n < sizeLine) (hG : ∀ H, Same H1 H → G H) (hY : ∀ j x H H', j < n → Same H1 H → Y j H x H' → Same H H')
    (he : ∀ j x H H', j < n → Same H1 H → Y j H x H' → ∀ (Q : VK) (R : Hp → Prop), (∀ H2 v, Same H' H2 → Dp K H2 v (f j) → Q v H2) → g x (wipe σ vs) H' fun σ2 H2 => wipe σ2 vs = wipe σ vs ∧ tt σ2 H2 fun b H3 => if b = true then te σ2 H3 Q else R H3)
    (hD : H1 D = none) (hd : ∀ H' acc, Same H1 H' → H' D = some (.lst acc) → DpAll K H' acc ((List.range n).map f) → Qd H') :
    ∃ W : Nat → Nat → Hp → Prop, (∃ m, W 0 m (upd H1 D (.lst []))) ∧ ∀ j m H, W j m H →
      (J.stop j H ∧ Qd H) ∨ (J.go j H ∧ ∃ Nx : Hp → Prop, (∀ H', Nx H' → ∃ m', m' < m ∧ W (j + 1) m' H') ∧ ∀ x H', J.yld j H x H' → g x (wipe σ vs) H' fun σ2 H2 => wipe σ2 vs = wipe σ vs ∧ tt σ2 H2 fun b H3 =>
        if b = true then te σ2 H3 fun y H4 => ∃ acc, H4 D = some (.lst acc) ∧ acc.length < sizeLine ∧ Nx (upd H4 D (.lst (acc ++ [y]))) else Nx H3) := by
  have only : ∀ j, tupOnlyAll ((List.range j).map f) = true := fun j => by
    generalize List.range j = l
    induction l with
    | nil => rfl
    | cons a l ih => simp only [List.map_cons, tupOnlyAll, hf a, ih]; rfl
  refine lc_it (g := g) w (fun j H => Same H1 H ∧ ∃ acc, H D = some (.lst acc) ∧ DpAll K H acc ((List.range j).map f)) ⟨same_new hD, [], upd_same, .nil⟩ (fun j H _ e => hG _ e.1) ?_ ?_
  · rintro j x H H' hj ⟨s1, acc, hL, hA⟩ y
    have sY := hY j x H H' hj s1 y
    refine he j x H H' hj s1 y _ _ (fun H2 v s2 hv => ?_)
    have s3 := sY.trans s2
    have hl := hA.length
    rw [List.length_map, List.length_range] at hl
    have hL3 := s3 _ _ hL
    refine ⟨_, hL3, by omega, ?_, _, upd_same, ?_⟩
    · intro b o eb
      rw [upd_ne (ne_of_none eb hD)]
      exact s3 _ _ (s1 _ _ eb)
    · have e : (List.range (j + 1)).map f = (List.range j).map f ++ [f j] := by rw [List.range_succ, List.map_append]; rfl
      rw [e]
      have q1 := (hA.same s3).app (.cons hv .nil)
      rw [← e] at q1 ⊢
      exact DpAll_kt (Kt.upd hL3 not_tupU_lst) (only _) q1
  · rintro H ⟨s1, acc, hL, hA⟩
    exact hd H acc s1 hL hA
end
end Ak

/-! Jn: journals, in plain Lean. -/
namespace Jn
open Ak (cs)
open TL (numL)
abbrev Cs := List Nat
/-! ### words of tellings -/
inductive Tl | int (z : Int) | tt | uu | nn | pr (a b : Tl) | cn (a b : Tl)
def numI (z : Int) : Cs := if z < 0 then 45 :: numL z.natAbs else numL z.natAbs
def word : Tl → Cs
  | .int z => 105 :: (numI z ++ [59])
  | .tt => [116]
  | .uu => [117]
  | .nn => [110]
  | .pr a b => 112 :: (word a ++ word b)
  | .cn a b => 99 :: (word a ++ word b)
def depT : Tl → Nat
  | .pr a b => max (depT a) (depT b) + 1
  | .cn a b => max (depT a) (depT b) + 1
  | _ => 1
def OkT : Tl → Prop
  | .int z => -2147483648 ≤ z ∧ z ≤ 2147483647
  | .pr a b => OkT a ∧ OkT b
  | .cn a b => OkT a ∧ OkT b
  | _ => True
/-- signs of words -/
def isW (c : Nat) : Bool := decide (48 ≤ c ∧ c ≤ 57) || c == 45 || c == 59 || c == 105 || c == 116 || c == 117 || c == 110 || c == 112 || c == 99
theorem num_dig {n c : Nat} (h : c ∈ numL n) : 48 ≤ c ∧ c ≤ 57 := by
  have := TL.numL_digits n c h
  exact this
theorem num_w {n c : Nat} (h : c ∈ numL n) : isW c = true := by
  have := num_dig h
  simp [isW, this]
theorem numI_w {z : Int} {c : Nat} (h : c ∈ numI z) : isW c = true := by
  unfold numI at h
  split at h
  · rcases List.mem_cons.mp h with rfl | h
    · rfl
    · exact num_w h
  · exact num_w h
theorem word_w : ∀ {t : Tl} {c : Nat}, c ∈ word t → isW c = true
  | .int z, c, h => by
    rcases List.mem_cons.mp h with rfl | h
    · rfl
    · rcases List.mem_append.mp h with h | h
      · exact numI_w h
      · obtain rfl := List.mem_singleton.mp h
        rfl
  | .tt, c, h => by obtain rfl := List.mem_singleton.mp h; rfl
  | .uu, c, h => by obtain rfl := List.mem_singleton.mp h; rfl
  | .nn, c, h => by obtain rfl := List.mem_singleton.mp h; rfl
  | .pr a b, c, h => by
    rcases List.mem_cons.mp h with rfl | h
    · rfl
    · rcases List.mem_append.mp h with h | h
      · exact word_w h
      · exact word_w h
  | .cn a b, c, h => by
    rcases List.mem_cons.mp h with rfl | h
    · rfl
    · rcases List.mem_append.mp h with h | h
      · exact word_w h
      · exact word_w h
theorem numI_len {z : Int} (h1 : -2147483648 ≤ z) (h2 : z ≤ 2147483647) : (numI z).length ≤ 11 ∧ 0 < (numI z).length := by
  have e10 : (10:Nat) ^ 10 = 10000000000 := by decide
  have h := TL.numL_len (n := z.natAbs) (k := 10) (by decide) (by omega)
  have h0 : 0 < (numL z.natAbs).length := List.length_pos_iff.mpr (TL.numL_ne _)
  unfold numI
  split
  · simp only [List.length_cons]; omega
  · omega
theorem word_len : ∀ {t : Tl}, OkT t → (word t).length + 1 ≤ 14 * 2 ^ (depT t - 1) ∧ 0 < (word t).length ∧ 0 < depT t
  | .int z, h => by
    have := numI_len h.1 h.2
    simp only [word, depT, List.length_cons, List.length_append, List.length_nil]
    omega
  | .tt, _ => by simp [word, depT]
  | .uu, _ => by simp [word, depT]
  | .nn, _ => by simp [word, depT]
  | .pr a b, h => by
    obtain ⟨a1, a2, a3⟩ := word_len (t := a) h.1
    obtain ⟨b1, b2, b3⟩ := word_len (t := b) h.2
    have e1 : 2 ^ (depT a - 1) ≤ 2 ^ (max (depT a) (depT b) - 1) := Nat.pow_le_pow_right (by decide) (by omega)
    have e2 : 2 ^ (depT b - 1) ≤ 2 ^ (max (depT a) (depT b) - 1) := Nat.pow_le_pow_right (by decide) (by omega)
    have e3 : 2 ^ (max (depT a) (depT b) + 1 - 1) = 2 * 2 ^ (max (depT a) (depT b) - 1) := by
      rw [← Nat.pow_succ']
      congr 1
      omega
    simp only [word, depT, List.length_cons, List.length_append, e3]
    omega
  | .cn a b, h => by
    obtain ⟨a1, a2, a3⟩ := word_len (t := a) h.1
    obtain ⟨b1, b2, b3⟩ := word_len (t := b) h.2
    have e1 : 2 ^ (depT a - 1) ≤ 2 ^ (max (depT a) (depT b) - 1) := Nat.pow_le_pow_right (by decide) (by omega)
    have e2 : 2 ^ (depT b - 1) ≤ 2 ^ (max (depT a) (depT b) - 1) := Nat.pow_le_pow_right (by decide) (by omega)
    have e3 : 2 ^ (max (depT a) (depT b) + 1 - 1) = 2 * 2 ^ (max (depT a) (depT b) - 1) := by
      rw [← Nat.pow_succ']
      congr 1
      omega
    simp only [word, depT, List.length_cons, List.length_append, e3]
    omega
theorem word_small {t : Tl} (h : OkT t) (hd : depT t ≤ 4) : (word t).length ≤ 111 := by
  have h1 := (word_len h).1
  have h2 : 2 ^ (depT t - 1) ≤ 2 ^ 3 := Nat.pow_le_pow_right (by decide) (by omega)
  omega
/-! ### records -/
inductive Rec | begun (n : Nat) | kept (a b : Nat) | asked (nm : Cs) (t : Tl) | answered (t : Tl)
def asks : List Cs := [cs "Get", cs "Put2", cs "Fail"]
def OkR : Rec → Prop
  | .begun n => n < 10 ^ 12
  | .kept a b => a < 10 ^ 12 ∧ b < 10 ^ 12
  | .asked nm t => nm ∈ asks ∧ OkT t ∧ depT t ≤ 4
  | .answered t => OkT t ∧ depT t ≤ 4
def fields : Rec → List Cs
  | .begun n => [cs "begun", numL n]
  | .kept a b => [cs "kept", numL a, numL b]
  | .asked nm t => [cs "asked", nm, word t]
  | .answered t => [cs "answered", word t]
/-- joined by blanks -/
def joinS : List Cs → Cs
  | [] => []
  | [p] => p
  | p :: q :: ps => p ++ 32 :: joinS (q :: ps)
def splitS : Cs → List Cs
  | [] => [[]]
  | c :: l => if c = 32 then [] :: splitS l else match splitS l with
    | [] => [[c]]
    | p :: ps => (c :: p) :: ps
theorem split_ne : ∀ l, splitS l ≠ []
  | [] => by simp [splitS]
  | c :: l => by
    unfold splitS
    split
    · simp
    · split <;> simp
theorem join_cons {p : Cs} {ps : List Cs} (h : ps ≠ []) : joinS (p :: ps) = p ++ 32 :: joinS ps := by
  cases ps with
  | nil => exact absurd rfl h
  | cons q qs => rfl
theorem join_split : ∀ l, joinS (splitS l) = l
  | [] => rfl
  | c :: l => by
    have ih := join_split l
    unfold splitS
    split
    · rename_i h
      subst h
      rw [join_cons (split_ne l), ih]
      rfl
    · cases e : splitS l with
      | nil => exact absurd e (split_ne l)
      | cons p ps =>
        rw [e] at ih
        show joinS ((c :: p) :: ps) = c :: l
        cases ps with
        | nil =>
          show c :: p = c :: l
          have : p = l := ih
          rw [this]
        | cons q qs =>
          have : p ++ 32 :: joinS (q :: qs) = l := ih
          show (c :: p) ++ 32 :: joinS (q :: qs) = c :: l
          rw [← this]
          rfl
theorem split_free : ∀ l, ∀ p ∈ splitS l, 32 ∉ p
  | [], p, hp => by
    obtain rfl := List.mem_singleton.mp hp
    simp
  | c :: l, p, hp => by
    unfold splitS at hp
    split at hp
    · rcases List.mem_cons.mp hp with rfl | hp
      · simp
      · exact split_free l p hp
    · rename_i h
      cases e : splitS l with
      | nil => exact absurd e (split_ne l)
      | cons q qs =>
        rw [e] at hp
        have ih := split_free l
        rw [e] at ih
        rcases List.mem_cons.mp hp with rfl | hp
        · intro hm
          rcases List.mem_cons.mp hm with h2 | h2
          · exact h h2.symm
          · exact ih q List.mem_cons_self h2
        · exact ih p (List.mem_cons_of_mem _ hp)
theorem split_one : ∀ {l : Cs}, 32 ∉ l → splitS l = [l]
  | [], _ => rfl
  | c :: l, h => by
    unfold splitS
    rw [if_neg (fun e => h (by rw [e]; exact List.mem_cons_self)), split_one (l := l) fun hm => h (List.mem_cons_of_mem _ hm)]
theorem split_app : ∀ (a b : Cs), splitS (a ++ 32 :: b) = splitS a ++ splitS b
  | [], b => by show splitS (32 :: b) = _; simp [splitS]
  | c :: a, b => by
    have ih := split_app a b
    show splitS (c :: (a ++ 32 :: b)) = splitS (c :: a) ++ splitS b
    by_cases h : c = 32
    · subst h
      simp only [splitS, if_true, ih]
      rfl
    · simp only [splitS, if_neg h, ih]
      cases e : splitS a with
      | nil => exact absurd e (split_ne a)
      | cons p ps => rfl
theorem split_join : ∀ {ps : List Cs}, ps ≠ [] → (∀ p ∈ ps, 32 ∉ p) → splitS (joinS ps) = ps
  | [], h, _ => absurd rfl h
  | [p], _, h => split_one (h p List.mem_cons_self)
  | p :: q :: ps, _, h => by
    show splitS (p ++ 32 :: joinS (q :: ps)) = _
    rw [split_app, split_one (h p List.mem_cons_self), split_join (ps := q :: ps) (by simp) fun x hx => h x (List.mem_cons_of_mem _ hx)]
    rfl
/-! ### sums -/
def stepN (s : Nat × Nat) (c : Nat) : Nat × Nat := ((s.1 + c) % 9973, (s.2 + (s.1 + c) % 9973) % 9973)
def sums (l : Cs) : Nat × Nat := l.foldl stepN (1, 0)
def sum (l : Cs) : Nat := (sums l).2 * 9973 + (sums l).1
theorem fold_one : ∀ (l : Cs) (s : Nat × Nat), s.1 < 9973 → s.2 < 9973 → (l.foldl stepN s).1 = (s.1 + l.sum) % 9973 ∧ (l.foldl stepN s).1 < 9973 ∧ (l.foldl stepN s).2 < 9973
  | [], s, h1, h2 => by
    refine ⟨?_, h1, h2⟩
    show s.1 = (s.1 + 0) % 9973
    rw [Nat.add_zero, Nat.mod_eq_of_lt h1]
  | c :: l, s, h1, h2 => by
    obtain ⟨a, b, d⟩ := fold_one l (stepN s c) (Nat.mod_lt _ (by decide)) (Nat.mod_lt _ (by decide))
    refine ⟨?_, b, d⟩
    show (l.foldl stepN (stepN s c)).1 = _
    rw [a]
    show ((s.1 + c) % 9973 + l.sum) % 9973 = (s.1 + (c :: l).sum) % 9973
    rw [List.sum_cons]
    omega
theorem sum_mod (l : Cs) : sum l % 9973 = (1 + l.sum) % 9973 := by
  obtain ⟨a, b, _⟩ := fold_one l (1, 0) (by decide) (by decide)
  unfold sum sums
  rw [Nat.mul_comm, Nat.mul_add_mod, Nat.mod_eq_of_lt b, a]
theorem sum_lt (l : Cs) : sum l < 99460729 := by
  obtain ⟨_, b, c⟩ := fold_one l (1, 0) (by decide) (by decide)
  unfold sum sums
  omega
theorem sum_ne {a b : Cs} (h : (1 + a.sum) % 9973 ≠ (1 + b.sum) % 9973) : sum a ≠ sum b := fun e => h (by rw [← sum_mod, ← sum_mod, e])
theorem sum_len (l : Cs) : (numL (sum l)).length ≤ 8 := TL.numL_len (by decide) (Nat.lt_of_lt_of_le (sum_lt l) (by decide))
/-! ### lines -/
def head (n : Nat) (r : Rec) : Cs := joinS (numL n :: fields r)
def lineB (n : Nat) (r : Rec) : Cs := head n r ++ 32 :: numL (sum (head n r))
def line (n : Nat) (r : Rec) : Cs := lineB n r ++ [10]
/-- parts that make no record -/
def badP : List Cs → Prop
  | [] => True
  | w :: rest => (w = cs "begun" ∧ rest.length ≠ 1) ∨ (w = cs "kept" ∧ rest.length ≠ 2) ∨ (w = cs "asked" ∧ rest.length ≠ 2) ∨ (w = cs "answered" ∧ rest.length ≠ 1)
/-- the line makes no record at the number n -/
def Bad (n : Nat) (l : Cs) : Prop :=
  (splitS l).length < 4 ∨ (splitS l).head? ≠ some (numL n) ∨ (splitS l).getLast? ≠ some (numL (sum (joinS (splitS l).dropLast))) ∨ badP ((splitS l).dropLast.drop 1)
theorem num_no {n : Nat} : 32 ∉ numL n := TL.numL_free (.inl (by decide))
theorem word_no {t : Tl} : 32 ∉ word t := fun h => by
  have := word_w h
  revert this
  decide
theorem field_no {r : Rec} (h : OkR r) : ∀ p ∈ fields r, 32 ∉ p := by
  intro p hp
  cases r with
  | begun n =>
    simp only [fields, List.mem_cons, List.not_mem_nil, or_false] at hp
    rcases hp with rfl | rfl
    · decide
    · exact num_no
  | kept a b =>
    simp only [fields, List.mem_cons, List.not_mem_nil, or_false] at hp
    rcases hp with rfl | rfl | rfl
    · decide
    · exact num_no
    · exact num_no
  | asked nm t =>
    simp only [fields, List.mem_cons, List.not_mem_nil, or_false] at hp
    rcases hp with rfl | rfl | rfl
    · decide
    · have := h.1
      simp only [asks, List.mem_cons, List.not_mem_nil, or_false] at this
      rcases this with rfl | rfl | rfl <;> decide
    · exact word_no
  | answered t =>
    simp only [fields, List.mem_cons, List.not_mem_nil, or_false] at hp
    rcases hp with rfl | rfl
    · decide
    · exact word_no
theorem head_split {n : Nat} {r : Rec} (h : OkR r) : splitS (head n r) = numL n :: fields r :=
  split_join (by simp) fun p hp => (List.mem_cons.mp hp).elim (fun e => e ▸ num_no) (field_no h p)
theorem line_split {n : Nat} {r : Rec} (h : OkR r) : splitS (lineB n r) = (numL n :: fields r) ++ [numL (sum (head n r))] := by
  unfold lineB
  rw [split_app, head_split h, split_one num_no]
/-- one part too many -/
theorem bad_more {n : Nat} {r : Rec} {x : Cs} {xs : List Cs} : badP (fields r ++ x :: xs) := by
  cases r with
  | begun n => exact .inl ⟨rfl, by simp⟩
  | kept a b => exact .inr (.inl ⟨rfl, by simp⟩)
  | asked nm t => exact .inr (.inr (.inl ⟨rfl, by simp⟩))
  | answered t => exact .inr (.inr (.inr ⟨rfl, by simp⟩))
theorem field_ne (r : Rec) : fields r ≠ [] := by cases r <;> simp [fields]
/-- one part less -/
theorem bad_less {n : Nat} {r : Rec} {y : Cs} : ((numL n :: (fields r).dropLast) ++ [y]).length < 4 ∨ badP (fields r).dropLast := by
  cases r with
  | begun n => exact .inl (by simp [fields])
  | kept a b => exact .inr (.inr (.inl ⟨rfl, by simp⟩))
  | asked nm t => exact .inr (.inr (.inr (.inl ⟨rfl, by simp⟩)))
  | answered t => exact .inl (by simp [fields])
theorem bad_sum {n : Nat} {h S : Cs} (hS : 32 ∉ S) (hne : S ≠ numL (sum h)) : Bad n (h ++ 32 :: S) := by
  refine .inr (.inr (.inl ?_))
  rw [split_app, split_one hS, List.dropLast_concat, join_split, List.getLast?_concat]
  intro e
  exact hne (Option.some.inj e)
/-- another sum at the end, or a piece of one -/
theorem bad_tail {n : Nat} {r : Rec} {S1 S2 : Cs} (ok : OkR r) (h1 : 32 ∉ S1) (h2 : 32 ∉ S2) : Bad n (head n r ++ 32 :: (S1 ++ 32 :: S2)) := by
  refine .inr (.inr (.inr ?_))
  rw [split_app, head_split ok, split_app, split_one h1, split_one h2]
  show badP (List.drop 1 (((numL n :: fields r) ++ ([S1] ++ [S2])).dropLast))
  rw [← List.append_assoc, List.dropLast_concat]
  exact bad_more (n := n)
theorem last_cat {n : Nat} {r : Rec} : ∃ X y, head n r = X ++ 32 :: y ∧ fields r = (fields r).dropLast ++ [y] ∧ X = joinS (numL n :: (fields r).dropLast) := by
  cases r with
  | begun k => exact ⟨joinS [numL n, cs "begun"], numL k, by simp [head, fields, joinS], rfl, rfl⟩
  | kept a b => exact ⟨joinS [numL n, cs "kept", numL a], numL b, by simp [head, fields, joinS], rfl, rfl⟩
  | asked nm t => exact ⟨joinS [numL n, cs "asked", nm], word t, by simp [head, fields, joinS], rfl, rfl⟩
  | answered t => exact ⟨joinS [numL n, cs "answered"], word t, by simp [head, fields, joinS], rfl, rfl⟩
/-- the last blank is gone -/
theorem bad_glued {n : Nat} {r : Rec} {Z : Cs} (ok : OkR r) (hZ : 32 ∉ Z) : Bad n (head n r ++ Z) := by
  obtain ⟨X, y, e1, e2, e3⟩ := last_cat (n := n) (r := r)
  have hy : 32 ∉ y := field_no ok y (by rw [e2]; simp)
  have hX : splitS X = numL n :: (fields r).dropLast := by
    rw [e3]
    refine split_join (by simp) fun p hp => (List.mem_cons.mp hp).elim (fun e => e ▸ num_no) fun hp => field_no ok p ?_
    rw [e2]
    exact List.mem_append_left _ hp
  have es : splitS (head n r ++ Z) = (numL n :: (fields r).dropLast) ++ [y ++ Z] := by
    rw [e1, List.append_assoc]
    show splitS (X ++ 32 :: (y ++ Z)) = _
    rw [split_app, hX, split_one (fun h => (List.mem_append.mp h).elim hy hZ)]
  rcases bad_less (n := n) (r := r) (y := y ++ Z) with h | h
  · exact .inl (by rw [es]; exact h)
  · refine .inr (.inr (.inr ?_))
    rw [es, List.dropLast_concat]
    exact h
/-! ### edits -/
theorem cut_at {a b : Cs} {h : Cs} {S : Cs} {c : Nat} (e : a ++ c :: b = h ++ 32 :: S) : (∃ h2, h = a ++ c :: h2 ∧ b = h2 ++ 32 :: S) ∨ (a = h ∧ c = 32 ∧ b = S) ∨ ∃ S1, a = h ++ 32 :: S1 ∧ S = S1 ++ c :: b := by
  rcases List.append_eq_append_iff.mp e with ⟨x, e1, e2⟩ | ⟨x, e1, e2⟩
  · cases x with
    | nil =>
      refine .inr (.inl ⟨by rw [e1]; simp, ?_⟩)
      have e2' : c :: b = 32 :: S := e2
      cases e2'
      exact ⟨rfl, rfl⟩
    | cons d x =>
      have e2' : c :: b = d :: (x ++ 32 :: S) := e2
      cases e2'
      exact .inl ⟨x, e1, rfl⟩
  · cases x with
    | nil =>
      refine .inr (.inl ⟨by rw [e1]; simp, ?_⟩)
      have e2' : 32 :: S = c :: b := e2
      cases e2'
      exact ⟨rfl, rfl⟩
    | cons d x =>
      have e2' : 32 :: S = d :: (x ++ c :: b) := e2
      cases e2'
      exact .inr (.inr ⟨x, e1, rfl⟩)
/-- a sign exchanged -/
theorem bad_sub {n : Nat} {r : Rec} {a b : Cs} {c d : Nat} (ok : OkR r) (e : a ++ c :: b = lineB n r) (hd : d ≠ c) (hc : c < 9973) (hd' : d < 9973) : Bad n (a ++ d :: b) := by
  unfold lineB at e
  rcases cut_at e with ⟨h2, e1, rfl⟩ | ⟨rfl, rfl, rfl⟩ | ⟨S1, rfl, e2⟩
  · rw [show a ++ d :: (h2 ++ 32 :: numL (sum (head n r))) = (a ++ d :: h2) ++ 32 :: numL (sum (head n r)) by simp]
    refine bad_sum num_no fun z => ?_
    have := sum_ne (a := head n r) (b := a ++ d :: h2) (by
      rw [e1]
      simp only [List.sum_append, List.sum_cons]
      omega)
    exact this (TL.numL_inj z)
  · rw [show head n r ++ d :: numL (sum (head n r)) = head n r ++ (d :: numL (sum (head n r))) from rfl]
    refine bad_glued ok fun h => ?_
    rcases List.mem_cons.mp h with h | h
    · exact hd h.symm
    · exact num_no h
  · rw [show head n r ++ 32 :: S1 ++ d :: b = head n r ++ 32 :: (S1 ++ d :: b) by simp]
    have f1 : 32 ∉ S1 := fun h => num_no (n := sum (head n r)) (by rw [e2]; exact List.mem_append_left _ h)
    have f2 : 32 ∉ b := fun h => num_no (n := sum (head n r)) (by rw [e2]; exact List.mem_append_right _ (List.mem_cons_of_mem _ h))
    by_cases h : d = 32
    · subst h
      exact bad_tail ok f1 f2
    · refine bad_sum (fun hm => ?_) fun z => ?_
      · rcases List.mem_append.mp hm with hm | hm
        · exact f1 hm
        · rcases List.mem_cons.mp hm with hm | hm
          · exact h hm.symm
          · exact f2 hm
      · rw [e2] at z
        have := List.append_cancel_left z
        cases this
        exact hd rfl
/-- a sign left out -/
theorem bad_del {n : Nat} {r : Rec} {a b : Cs} {c : Nat} (ok : OkR r) (e : a ++ c :: b = lineB n r) (h0 : 0 < c) (hc : c < 9973) : Bad n (a ++ b) := by
  unfold lineB at e
  rcases cut_at e with ⟨h2, e1, rfl⟩ | ⟨rfl, rfl, rfl⟩ | ⟨S1, rfl, e2⟩
  · rw [show a ++ (h2 ++ 32 :: numL (sum (head n r))) = (a ++ h2) ++ 32 :: numL (sum (head n r)) by simp]
    refine bad_sum num_no fun z => ?_
    have := sum_ne (a := head n r) (b := a ++ h2) (by
      rw [e1]
      simp only [List.sum_append, List.sum_cons]
      omega)
    exact this (TL.numL_inj z)
  · exact bad_glued ok num_no
  · rw [show head n r ++ 32 :: S1 ++ b = head n r ++ 32 :: (S1 ++ b) by simp]
    have f1 : 32 ∉ S1 := fun h => num_no (n := sum (head n r)) (by rw [e2]; exact List.mem_append_left _ h)
    have f2 : 32 ∉ b := fun h => num_no (n := sum (head n r)) (by rw [e2]; exact List.mem_append_right _ (List.mem_cons_of_mem _ h))
    refine bad_sum (fun hm => (List.mem_append.mp hm).elim f1 f2) fun z => ?_
    rw [e2] at z
    have := congrArg List.length z
    simp at this
/-- a sign put in -/
theorem bad_ins {n : Nat} {r : Rec} {a b : Cs} {d : Nat} (ok : OkR r) (e : a ++ b = lineB n r) (h0 : 0 < d) (hd : d < 9973) : Bad n (a ++ d :: b) := by
  unfold lineB at e
  rcases List.append_eq_append_iff.mp e with ⟨x, e1, e2⟩ | ⟨x, e1, e2⟩
  · subst e2
    rw [show a ++ d :: (x ++ 32 :: numL (sum (head n r))) = (a ++ d :: x) ++ 32 :: numL (sum (head n r)) by simp]
    refine bad_sum num_no fun z => ?_
    have := sum_ne (a := head n r) (b := a ++ d :: x) (by
      rw [e1]
      simp only [List.sum_append, List.sum_cons]
      omega)
    exact this (TL.numL_inj z)
  · cases x with
    | nil =>
      have e1' : a = head n r := by rw [e1]; simp
      have e2' : 32 :: numL (sum (head n r)) = b := e2
      subst e1'
      rw [← e2', show head n r ++ d :: 32 :: numL (sum (head n r)) = (head n r ++ [d]) ++ 32 :: numL (sum (head n r)) by simp]
      refine bad_sum num_no fun z => ?_
      have := sum_ne (a := head n r) (b := head n r ++ [d]) (by
        simp only [List.sum_append, List.sum_cons, List.sum_nil]
        omega)
      exact this (TL.numL_inj z)
    | cons q S1 =>
      have e2' : 32 :: numL (sum (head n r)) = q :: (S1 ++ b) := e2
      have eq : q = 32 := (List.cons.inj e2').1.symm
      have eS : numL (sum (head n r)) = S1 ++ b := (List.cons.inj e2').2
      subst eq
      rw [e1, show head n r ++ 32 :: S1 ++ d :: b = head n r ++ 32 :: (S1 ++ d :: b) by simp]
      have f1 : 32 ∉ S1 := fun h => num_no (n := sum (head n r)) (by rw [eS]; exact List.mem_append_left _ h)
      have f2 : 32 ∉ b := fun h => num_no (n := sum (head n r)) (by rw [eS]; exact List.mem_append_right _ h)
      by_cases h : d = 32
      · subst h
        exact bad_tail ok f1 f2
      · refine bad_sum (fun hm => ?_) fun z => ?_
        · rcases List.mem_append.mp hm with hm | hm
          · exact f1 hm
          · rcases List.mem_cons.mp hm with hm | hm
            · exact h hm.symm
            · exact f2 hm
        · rw [eS] at z
          have := congrArg List.length z
          simp at this
/-- two lines in one -/
theorem bad_two {n m : Nat} {r q : Rec} (ok : OkR r) (okq : OkR q) : Bad n (lineB n r ++ lineB m q) := by
  refine .inr (.inr (.inr ?_))
  have e : lineB n r ++ lineB m q = head n r ++ 32 :: (numL (sum (head n r)) ++ lineB m q) := by unfold lineB; simp
  rw [e, split_app, head_split ok]
  obtain ⟨p, ps, h1⟩ : ∃ p ps, splitS (numL (sum (head n r)) ++ head m q) = p :: ps := by
    cases e : splitS (numL (sum (head n r)) ++ head m q) with
    | nil => exact absurd e (split_ne _)
    | cons p ps => exact ⟨p, ps, rfl⟩
  have e2 : splitS (numL (sum (head n r)) ++ lineB m q) = (p :: ps) ++ [numL (sum (head m q))] := by
    unfold lineB
    rw [← List.append_assoc, split_app, h1, split_one num_no]
  rw [e2, ← List.append_assoc, List.dropLast_concat]
  exact bad_more (n := n)
/-- another line's number -/
theorem bad_num {n m : Nat} {r : Rec} (ok : OkR r) (h : m ≠ n) : Bad n (lineB m r) := by
  refine .inr (.inl ?_)
  rw [line_split ok]
  intro e
  exact h (TL.numL_inj (Option.some.inj e))
theorem bad_nil {n : Nat} : Bad n [] := .inl (by decide)
end Jn

set_option maxHeartbeats 4000000
/-! AkTx: texts: found from a place on; numbers written and read; slices. -/
namespace Ak
open PySem PySem.Spec PyProof.Rows L2 TL
theorem fromIx {n i : Nat} (h : i ≤ n) : fromIndex n (i : Int) = i := by
  unfold fromIndex
  split <;> omega
theorem getD_tx (l : List Nat) (v : Nat) : (tx l).cps.getD v 0 = l.getD v 0 := by
  show l.toArray.getD v 0 = _
  by_cases h : v < l.length
  · simp [Array.getD, List.getD, h]
  · simp [Array.getD, List.getD, h]
theorem find_at {a b r : List Nat} {c : Nat} (hb : c ∉ b) : Txt.find3 (tx (a ++ (b ++ c :: r))) ⟨#[c]⟩ (a.length : Nat) = ((a.length + b.length : Nat) : Int) := by
  have hl : (tx (a ++ (b ++ c :: r))).length = a.length + b.length + 1 + r.length := by
    rw [len_tx]
    simp only [List.length_append, List.length_cons]
    omega
  have at_c : (a ++ (b ++ c :: r)).getD (a.length + b.length) 0 = c := by
    rw [List.getD_eq_getElem?_getD, ← List.append_assoc, List.getElem?_append_right (by simp)]
    simp
  have at_b : ∀ v, a.length ≤ v → v < a.length + b.length → (a ++ (b ++ c :: r)).getD v 0 ≠ c := fun v h1 h2 e => by
    rw [List.getD_eq_getElem?_getD, List.getElem?_append_right h1, List.getElem?_append_left (by omega), List.getElem?_eq_getElem (by omega)] at e
    exact hb (by rw [← e]; exact List.getElem_mem _)
  rcases StrLaws.find3_spec (tx (a ++ (b ++ c :: r))) c (a.length : Nat) with ⟨_, hn⟩ | ⟨k, e, h1, h2, h3, h4⟩
  · rw [hl, fromIx (by omega)] at hn
    refine absurd ?_ (hn (a.length + b.length) (by omega) (by omega))
    rw [getD_tx]
    exact at_c
  · rw [hl] at h1 h2 h4
    rw [fromIx (by omega)] at h1 h4
    rw [e]
    congr 1
    rcases Nat.lt_trichotomy k (a.length + b.length) with h | h | h
    · rw [getD_tx] at h3
      exact absurd h3 (at_b k h1 h)
    · exact h
    · refine absurd ?_ (h4 (a.length + b.length) (by omega) h)
      rw [getD_tx]
      exact at_c
theorem find_no {a b : List Nat} {c : Nat} (hb : c ∉ b) : Txt.find3 (tx (a ++ b)) ⟨#[c]⟩ (a.length : Nat) = -1 := by
  have hl : (tx (a ++ b)).length = a.length + b.length := by
    rw [len_tx, List.length_append]
  rcases StrLaws.find3_spec (tx (a ++ b)) c (a.length : Nat) with ⟨e, _⟩ | ⟨k, e, h1, h2, h3, h4⟩
  · exact e
  · rw [hl] at h1 h2
    rw [fromIx (by omega)] at h1
    rw [getD_tx, List.getD_eq_getElem?_getD, List.getElem?_append_right h1, List.getElem?_eq_getElem (by omega)] at h3
    exact absurd (by rw [← h3]; exact List.getElem_mem _) hb
theorem cutS_to (l : List Nat) (i : Nat) : cutS (tx l) none (some (i : Int)) = tx (l.take i) := by
  unfold cutS
  rw [HT.sIx_nat, HT.sIx_none, len_tx]
  show tx ((l.drop 0).take (min i l.length - 0)) = _
  rw [List.drop_zero, Nat.sub_zero]
  congr 1
  by_cases h : i ≤ l.length
  · rw [Nat.min_eq_left h]
  · rw [Nat.min_eq_right (by omega), List.take_of_length_le (Nat.le_refl _), List.take_of_length_le (by omega)]
theorem b_front_tx {K : PySem.W.Frag} {H : Hp} {Q : VK} {l : List Nat} {i : Nat} (hz : l.length ≤ 100000) (q : Q (.str (tx (l.take i))) H) : rSlB K (.str (tx l)) none (some (i : Int)) H Q :=
  .inr (.inl ⟨tx l, rfl, by rw [len_tx]; exact Nat.le_trans hz (by decide), by rw [cutS_to]; exact q⟩)
/-- the text of figures, read -/
theorem int_of_digits {l : List Nat} (h : NumText.AllDigits l) (h1 : l ≠ []) (h2 : l.length ≤ 640) : PySem.intText? (tx l) = some ((NumText.digitsVal l : Nat) : Int) :=
  PySem.intText_digits (x := tx l) h h1 (by rw [len_tx]; omega)
theorem int_of_num {z : Int} (h : (Jn.numI z).length ≤ 640) : PySem.intText? (tx (Jn.numI z)) = some z := by
  unfold Jn.numI at h ⊢
  split
  · rename_i hz
    rw [if_pos hz] at h
    simp only [List.length_cons] at h
    rw [PySem.intText_neg (x := tx (45 :: numL z.natAbs)) (cs := numL z.natAbs) rfl (numL_digits _) (numL_ne _) (by rw [len_tx, List.length_cons]; omega), numL_val]
    congr 1
    omega
  · rename_i hz
    rw [if_neg hz] at h
    rw [int_of_digits (numL_digits _) (numL_ne _) h, numL_val]
    congr 1
    omega
end Ak

set_option maxHeartbeats 4000000
/-! W68: the text of the law k68 by places. -/
namespace K68
open PySem PySem.Spec PyProof.Rows L2 Ak
def topS (i : Nat) : Stmt := PySem.Challenge.pw_asktongue_k68_whole_journals_cut_and_spo.main.body.getD i (.Pass ⟨0, 0, 0, 0⟩)
abbrev s_is_integer : Stmt := topS 6
abbrev s_is_count : Stmt := topS 7
abbrev s_is_row : Stmt := topS 8
abbrev s_is_int : Stmt := topS 18
abbrev s_has_signs : Stmt := topS 19
abbrev s_is_name : Stmt := topS 20
abbrev s_is_ask_name : Stmt := topS 21
abbrev s_is_sign : Stmt := topS 22
abbrev s_are_two_names : Stmt := topS 46
abbrev s_are_clauses : Stmt := topS 47
abbrev s_is_node : Stmt := topS 48
abbrev s_children_of : Stmt := topS 49
abbrev s_is_within : Stmt := topS 50
abbrev s_is_data_of : Stmt := topS 51
abbrev s_is_telling_of : Stmt := topS 65
abbrev s_word_of : Stmt := topS 66
abbrev s_int_from : Stmt := topS 67
abbrev s_telling_from : Stmt := topS 68
abbrev s_telling_by : Stmt := topS 69
abbrev s_is_record_of : Stmt := topS 70
abbrev s_is_number : Stmt := topS 71
abbrev s_follows : Stmt := topS 72
abbrev s_are_records_of : Stmt := topS 73
abbrev s_sum_of_signs : Stmt := topS 74
abbrev s_parts_of : Stmt := topS 75
abbrev s_line_of : Stmt := topS 76
abbrev s_number_by : Stmt := topS 77
abbrev s_record_by : Stmt := topS 78
abbrev s_record_in : Stmt := topS 79
abbrev s_journal_of : Stmt := topS 80
abbrev s_read_of : Stmt := topS 81
abbrev s_want_journal : Stmt := topS 82
abbrev s_are_records : Stmt := topS 83
abbrev s_sum_of : Stmt := topS 84
abbrev s_record_line : Stmt := topS 85
abbrev s_journal_text : Stmt := topS 86
abbrev s_read_journal : Stmt := topS 87
abbrev s__law_pot : Stmt := topS 89
abbrev s__law_draw : Stmt := topS 90
abbrev s__law_pick : Stmt := topS 91
abbrev s__law_data : Stmt := topS 92
abbrev s__law_records : Stmt := topS 93
abbrev s__law_is_right : Stmt := topS 94
abbrev s_law : Stmt := topS 95
abbrev s_TongueError_init : Stmt := inClass (topS 1) 0
abbrev nm_is_integer : List Str := ["value"]
theorem sc_is_integer : FnScope nm_is_integer ["value"] (defScope s_is_integer) := ⟨rfl, rfl, rfl, by decide +kernel, rfl, by decide +kernel, by decide +kernel⟩
abbrev nm_is_count : List Str := ["value"]
theorem sc_is_count : FnScope nm_is_count ["value"] (defScope s_is_count) := ⟨rfl, rfl, rfl, by decide +kernel, rfl, by decide +kernel, by decide +kernel⟩
abbrev nm_is_row : List Str := ["value", "many"]
theorem sc_is_row : FnScope nm_is_row ["value", "many"] (defScope s_is_row) := ⟨rfl, rfl, rfl, by decide +kernel, rfl, by decide +kernel, by decide +kernel⟩
abbrev nm_is_int : List Str := ["value"]
theorem sc_is_int : FnScope nm_is_int ["value"] (defScope s_is_int) := ⟨rfl, rfl, rfl, by decide +kernel, rfl, by decide +kernel, by decide +kernel⟩
abbrev nm_has_signs : List Str := ["value", "first", "others", "sign"]
theorem sc_has_signs : FnScope nm_has_signs ["value", "first", "others"] (defScope s_has_signs) := ⟨rfl, rfl, rfl, by decide +kernel, rfl, by decide +kernel, by decide +kernel⟩
abbrev nm_is_name : List Str := ["value"]
theorem sc_is_name : FnScope nm_is_name ["value"] (defScope s_is_name) := ⟨rfl, rfl, rfl, by decide +kernel, rfl, by decide +kernel, by decide +kernel⟩
abbrev nm_is_ask_name : List Str := ["value"]
theorem sc_is_ask_name : FnScope nm_is_ask_name ["value"] (defScope s_is_ask_name) := ⟨rfl, rfl, rfl, by decide +kernel, rfl, by decide +kernel, by decide +kernel⟩
abbrev nm_is_sign : List Str := ["value"]
theorem sc_is_sign : FnScope nm_is_sign ["value"] (defScope s_is_sign) := ⟨rfl, rfl, rfl, by decide +kernel, rfl, by decide +kernel, by decide +kernel⟩
abbrev nm_are_two_names : List Str := ["one", "other"]
theorem sc_are_two_names : FnScope nm_are_two_names ["one", "other"] (defScope s_are_two_names) := ⟨rfl, rfl, rfl, by decide +kernel, rfl, by decide +kernel, by decide +kernel⟩
abbrev nm_are_clauses : List Str := ["value", "names", "row"]
theorem sc_are_clauses : FnScope nm_are_clauses ["value"] (defScope s_are_clauses) := ⟨rfl, rfl, rfl, by decide +kernel, rfl, by decide +kernel, by decide +kernel⟩
abbrev nm_is_node : List Str := ["value", "word"]
theorem sc_is_node : FnScope nm_is_node ["value"] (defScope s_is_node) := ⟨rfl, rfl, rfl, by decide +kernel, rfl, by decide +kernel, by decide +kernel⟩
abbrev nm_children_of : List Str := ["term", "at", "row"]
theorem sc_children_of : FnScope nm_children_of ["term"] (defScope s_children_of) := ⟨rfl, rfl, rfl, by decide +kernel, rfl, by decide +kernel, by decide +kernel⟩
abbrev nm_is_within : List Str := ["value", "nodes", "deep", "left", "many", "node", "at", "child"]
theorem sc_is_within : FnScope nm_is_within ["value", "nodes", "deep"] (defScope s_is_within) := ⟨rfl, rfl, rfl, by decide +kernel, rfl, by decide +kernel, by decide +kernel⟩
abbrev nm_is_data_of : List Str := ["value", "left", "node"]
theorem sc_is_data_of : FnScope nm_is_data_of ["value"] (defScope s_is_data_of) := ⟨rfl, rfl, rfl, by decide +kernel, rfl, by decide +kernel, by decide +kernel⟩
abbrev nm_is_telling_of : List Str := ["value", "left", "one", "deep", "child"]
theorem sc_is_telling_of : FnScope nm_is_telling_of ["value"] (defScope s_is_telling_of) := ⟨rfl, rfl, rfl, by decide +kernel, rfl, by decide +kernel, by decide +kernel⟩
abbrev nm_word_of : List Str := ["telling", "sign"]
theorem sc_word_of : FnScope nm_word_of ["telling"] (defScope s_word_of) := ⟨rfl, rfl, rfl, by decide +kernel, rfl, by decide +kernel, by decide +kernel⟩
abbrev nm_int_from : List Str := ["text", "at", "end", "digits", "bare", "number", "sign"]
theorem sc_int_from : FnScope nm_int_from ["text", "at"] (defScope s_int_from) := ⟨rfl, rfl, rfl, by decide +kernel, rfl, by decide +kernel, by decide +kernel⟩
abbrev nm_telling_from : List Str := ["text", "at", "deep", "sign", "found", "near", "far"]
theorem sc_telling_from : FnScope nm_telling_from ["text", "at", "deep"] (defScope s_telling_from) := ⟨rfl, rfl, rfl, by decide +kernel, rfl, by decide +kernel, by decide +kernel⟩
abbrev nm_telling_by : List Str := ["text", "found"]
theorem sc_telling_by : FnScope nm_telling_by ["text"] (defScope s_telling_by) := ⟨rfl, rfl, rfl, by decide +kernel, rfl, by decide +kernel, by decide +kernel⟩
abbrev nm_is_record_of : List Str := ["value"]
theorem sc_is_record_of : FnScope nm_is_record_of ["value"] (defScope s_is_record_of) := ⟨rfl, rfl, rfl, by decide +kernel, rfl, by decide +kernel, by decide +kernel⟩
abbrev nm_is_number : List Str := ["value"]
theorem sc_is_number : FnScope nm_is_number ["value"] (defScope s_is_number) := ⟨rfl, rfl, rfl, by decide +kernel, rfl, by decide +kernel, by decide +kernel⟩
abbrev nm_follows : List Str := ["records", "record", "words", "one"]
theorem sc_follows : FnScope nm_follows ["records", "record"] (defScope s_follows) := ⟨rfl, rfl, rfl, by decide +kernel, rfl, by decide +kernel, by decide +kernel⟩
abbrev nm_are_records_of : List Str := ["value", "at", "one"]
theorem sc_are_records_of : FnScope nm_are_records_of ["value"] (defScope s_are_records_of) := ⟨rfl, rfl, rfl, by decide +kernel, rfl, by decide +kernel, by decide +kernel⟩
abbrev nm_sum_of_signs : List Str := ["text", "one", "other", "sign"]
theorem sc_sum_of_signs : FnScope nm_sum_of_signs ["text"] (defScope s_sum_of_signs) := ⟨rfl, rfl, rfl, by decide +kernel, rfl, by decide +kernel, by decide +kernel⟩
abbrev nm_parts_of : List Str := ["record", "number"]
theorem sc_parts_of : FnScope nm_parts_of ["record"] (defScope s_parts_of) := ⟨rfl, rfl, rfl, by decide +kernel, rfl, by decide +kernel, by decide +kernel⟩
abbrev nm_line_of : List Str := ["number", "record", "head"]
theorem sc_line_of : FnScope nm_line_of ["number", "record"] (defScope s_line_of) := ⟨rfl, rfl, rfl, by decide +kernel, rfl, by decide +kernel, by decide +kernel⟩
abbrev nm_number_by : List Str := ["text", "sign"]
theorem sc_number_by : FnScope nm_number_by ["text"] (defScope s_number_by) := ⟨rfl, rfl, rfl, by decide +kernel, rfl, by decide +kernel, by decide +kernel⟩
abbrev nm_record_by : List Str := ["parts", "word", "rest", "found", "one"]
theorem sc_record_by : FnScope nm_record_by ["parts"] (defScope s_record_by) := ⟨rfl, rfl, rfl, by decide +kernel, rfl, by decide +kernel, by decide +kernel⟩
abbrev nm_record_in : List Str := ["number", "line", "parts", "head"]
theorem sc_record_in : FnScope nm_record_in ["number", "line"] (defScope s_record_in) := ⟨rfl, rfl, rfl, by decide +kernel, rfl, by decide +kernel, by decide +kernel⟩
abbrev nm_journal_of : List Str := ["records", "number", "record"]
theorem sc_journal_of : FnScope nm_journal_of ["records"] (defScope s_journal_of) := ⟨rfl, rfl, rfl, by decide +kernel, rfl, by decide +kernel, by decide +kernel⟩
abbrev nm_read_of : List Str := ["text", "records", "at", "end", "record"]
theorem sc_read_of : FnScope nm_read_of ["text"] (defScope s_read_of) := ⟨rfl, rfl, rfl, by decide +kernel, rfl, by decide +kernel, by decide +kernel⟩
abbrev nm_want_journal : List Str := ["value"]
theorem sc_want_journal : FnScope nm_want_journal ["value"] (defScope s_want_journal) := ⟨rfl, rfl, rfl, by decide +kernel, rfl, by decide +kernel, by decide +kernel⟩
abbrev nm_are_records : List Str := ["value"]
theorem sc_are_records : FnScope nm_are_records ["value"] (defScope s_are_records) := ⟨rfl, rfl, rfl, by decide +kernel, rfl, by decide +kernel, by decide +kernel⟩
abbrev nm_sum_of : List Str := ["text"]
theorem sc_sum_of : FnScope nm_sum_of ["text"] (defScope s_sum_of) := ⟨rfl, rfl, rfl, by decide +kernel, rfl, by decide +kernel, by decide +kernel⟩
abbrev nm_record_line : List Str := ["number", "record"]
theorem sc_record_line : FnScope nm_record_line ["number", "record"] (defScope s_record_line) := ⟨rfl, rfl, rfl, by decide +kernel, rfl, by decide +kernel, by decide +kernel⟩
abbrev nm_journal_text : List Str := ["records"]
theorem sc_journal_text : FnScope nm_journal_text ["records"] (defScope s_journal_text) := ⟨rfl, rfl, rfl, by decide +kernel, rfl, by decide +kernel, by decide +kernel⟩
abbrev nm_read_journal : List Str := ["text"]
theorem sc_read_journal : FnScope nm_read_journal ["text"] (defScope s_read_journal) := ⟨rfl, rfl, rfl, by decide +kernel, rfl, by decide +kernel, by decide +kernel⟩
abbrev nm__law_pot : List Str := ["script", "k", "cell"]
theorem sc__law_pot : FnScope nm__law_pot ["script", "k"] (defScope s__law_pot) := ⟨rfl, rfl, rfl, by decide +kernel, rfl, by decide +kernel, by decide +kernel⟩
abbrev nm__law_draw : List Str := ["pot", "size", "digit"]
theorem sc__law_draw : FnScope nm__law_draw ["pot", "size"] (defScope s__law_draw) := ⟨rfl, rfl, rfl, by decide +kernel, rfl, by decide +kernel, by decide +kernel⟩
abbrev nm__law_pick : List Str := ["pot", "some"]
theorem sc__law_pick : FnScope nm__law_pick ["pot", "some"] (defScope s__law_pick) := ⟨rfl, rfl, rfl, by decide +kernel, rfl, by decide +kernel, by decide +kernel⟩
abbrev nm__law_data : List Str := ["pot", "deep", "way"]
theorem sc__law_data : FnScope nm__law_data ["pot", "deep"] (defScope s__law_data) := ⟨rfl, rfl, rfl, by decide +kernel, rfl, by decide +kernel, by decide +kernel⟩
abbrev nm__law_records : List Str := ["pot", "many", "found", "last", "turn"]
theorem sc__law_records : FnScope nm__law_records ["pot", "many"] (defScope s__law_records) := ⟨rfl, rfl, rfl, by decide +kernel, rfl, by decide +kernel, by decide +kernel⟩
abbrev nm__law_is_right : List Str := ["records", "many", "text", "told", "signs", "due", "number", "record"]
theorem sc__law_is_right : FnScope nm__law_is_right ["records", "many", "text"] (defScope s__law_is_right) := ⟨rfl, rfl, rfl, by decide +kernel, rfl, by decide +kernel, by decide +kernel⟩
abbrev nm_law : List Str := ["script", "pot", "records", "lines", "text", "ends", "at", "line", "turn", "cut", "spot", "sign", "whole", "told", "signs", "one", "other", "late", "number", "record", "end"]
theorem sc_law : FnScope nm_law ["script"] (defScope s_law) := ⟨rfl, rfl, rfl, by decide +kernel, rfl, by decide +kernel, by decide +kernel⟩
/-- what the top has left -/
structure Tx (K : PySem.W.Frag) (mg : Str → Option Value) where
  f_is_integer : Addr
  fd_is_integer : FuncData
  d_is_integer : DefAt K mg "is_integer" s_is_integer f_is_integer fd_is_integer
  f_is_count : Addr
  fd_is_count : FuncData
  d_is_count : DefAt K mg "is_count" s_is_count f_is_count fd_is_count
  f_is_row : Addr
  fd_is_row : FuncData
  d_is_row : DefAt K mg "is_row" s_is_row f_is_row fd_is_row
  f_is_int : Addr
  fd_is_int : FuncData
  d_is_int : DefAt K mg "is_int" s_is_int f_is_int fd_is_int
  f_has_signs : Addr
  fd_has_signs : FuncData
  d_has_signs : DefAt K mg "has_signs" s_has_signs f_has_signs fd_has_signs
  f_is_name : Addr
  fd_is_name : FuncData
  d_is_name : DefAt K mg "is_name" s_is_name f_is_name fd_is_name
  f_is_ask_name : Addr
  fd_is_ask_name : FuncData
  d_is_ask_name : DefAt K mg "is_ask_name" s_is_ask_name f_is_ask_name fd_is_ask_name
  f_is_sign : Addr
  fd_is_sign : FuncData
  d_is_sign : DefAt K mg "is_sign" s_is_sign f_is_sign fd_is_sign
  f_are_two_names : Addr
  fd_are_two_names : FuncData
  d_are_two_names : DefAt K mg "are_two_names" s_are_two_names f_are_two_names fd_are_two_names
  f_are_clauses : Addr
  fd_are_clauses : FuncData
  d_are_clauses : DefAt K mg "are_clauses" s_are_clauses f_are_clauses fd_are_clauses
  f_is_node : Addr
  fd_is_node : FuncData
  d_is_node : DefAt K mg "is_node" s_is_node f_is_node fd_is_node
  f_children_of : Addr
  fd_children_of : FuncData
  d_children_of : DefAt K mg "children_of" s_children_of f_children_of fd_children_of
  f_is_within : Addr
  fd_is_within : FuncData
  d_is_within : DefAt K mg "is_within" s_is_within f_is_within fd_is_within
  f_is_data_of : Addr
  fd_is_data_of : FuncData
  d_is_data_of : DefAt K mg "is_data_of" s_is_data_of f_is_data_of fd_is_data_of
  f_is_telling_of : Addr
  fd_is_telling_of : FuncData
  d_is_telling_of : DefAt K mg "is_telling_of" s_is_telling_of f_is_telling_of fd_is_telling_of
  f_word_of : Addr
  fd_word_of : FuncData
  d_word_of : DefAt K mg "word_of" s_word_of f_word_of fd_word_of
  f_int_from : Addr
  fd_int_from : FuncData
  d_int_from : DefAt K mg "int_from" s_int_from f_int_from fd_int_from
  f_telling_from : Addr
  fd_telling_from : FuncData
  d_telling_from : DefAt K mg "telling_from" s_telling_from f_telling_from fd_telling_from
  f_telling_by : Addr
  fd_telling_by : FuncData
  d_telling_by : DefAt K mg "telling_by" s_telling_by f_telling_by fd_telling_by
  f_is_record_of : Addr
  fd_is_record_of : FuncData
  d_is_record_of : DefAt K mg "is_record_of" s_is_record_of f_is_record_of fd_is_record_of
  f_is_number : Addr
  fd_is_number : FuncData
  d_is_number : DefAt K mg "is_number" s_is_number f_is_number fd_is_number
  f_follows : Addr
  fd_follows : FuncData
  d_follows : DefAt K mg "follows" s_follows f_follows fd_follows
  f_are_records_of : Addr
  fd_are_records_of : FuncData
  d_are_records_of : DefAt K mg "are_records_of" s_are_records_of f_are_records_of fd_are_records_of
  f_sum_of_signs : Addr
  fd_sum_of_signs : FuncData
  d_sum_of_signs : DefAt K mg "sum_of_signs" s_sum_of_signs f_sum_of_signs fd_sum_of_signs
  f_parts_of : Addr
  fd_parts_of : FuncData
  d_parts_of : DefAt K mg "parts_of" s_parts_of f_parts_of fd_parts_of
  f_line_of : Addr
  fd_line_of : FuncData
  d_line_of : DefAt K mg "line_of" s_line_of f_line_of fd_line_of
  f_number_by : Addr
  fd_number_by : FuncData
  d_number_by : DefAt K mg "number_by" s_number_by f_number_by fd_number_by
  f_record_by : Addr
  fd_record_by : FuncData
  d_record_by : DefAt K mg "record_by" s_record_by f_record_by fd_record_by
  f_record_in : Addr
  fd_record_in : FuncData
  d_record_in : DefAt K mg "record_in" s_record_in f_record_in fd_record_in
  f_journal_of : Addr
  fd_journal_of : FuncData
  d_journal_of : DefAt K mg "journal_of" s_journal_of f_journal_of fd_journal_of
  f_read_of : Addr
  fd_read_of : FuncData
  d_read_of : DefAt K mg "read_of" s_read_of f_read_of fd_read_of
  f_want_journal : Addr
  fd_want_journal : FuncData
  d_want_journal : DefAt K mg "want_journal" s_want_journal f_want_journal fd_want_journal
  f_are_records : Addr
  fd_are_records : FuncData
  d_are_records : DefAt K mg "are_records" s_are_records f_are_records fd_are_records
  f_sum_of : Addr
  fd_sum_of : FuncData
  d_sum_of : DefAt K mg "sum_of" s_sum_of f_sum_of fd_sum_of
  f_record_line : Addr
  fd_record_line : FuncData
  d_record_line : DefAt K mg "record_line" s_record_line f_record_line fd_record_line
  f_journal_text : Addr
  fd_journal_text : FuncData
  d_journal_text : DefAt K mg "journal_text" s_journal_text f_journal_text fd_journal_text
  f_read_journal : Addr
  fd_read_journal : FuncData
  d_read_journal : DefAt K mg "read_journal" s_read_journal f_read_journal fd_read_journal
  f__law_pot : Addr
  fd__law_pot : FuncData
  d__law_pot : DefAt K mg "_law_pot" s__law_pot f__law_pot fd__law_pot
  f__law_draw : Addr
  fd__law_draw : FuncData
  d__law_draw : DefAt K mg "_law_draw" s__law_draw f__law_draw fd__law_draw
  f__law_pick : Addr
  fd__law_pick : FuncData
  d__law_pick : DefAt K mg "_law_pick" s__law_pick f__law_pick fd__law_pick
  f__law_data : Addr
  fd__law_data : FuncData
  d__law_data : DefAt K mg "_law_data" s__law_data f__law_data fd__law_data
  f__law_records : Addr
  fd__law_records : FuncData
  d__law_records : DefAt K mg "_law_records" s__law_records f__law_records fd__law_records
  f__law_is_right : Addr
  fd__law_is_right : FuncData
  d__law_is_right : DefAt K mg "_law_is_right" s__law_is_right f__law_is_right fd__law_is_right
  f_law : Addr
  fd_law : FuncData
  d_law : DefAt K mg "law" s_law f_law fd_law
  n_abs : mg "abs" = none
  n_all : mg "all" = none
  n_bool : mg "bool" = none
  n_divmod : mg "divmod" = none
  n_enumerate : mg "enumerate" = none
  n_int : mg "int" = none
  n_isinstance : mg "isinstance" = none
  n_len : mg "len" = none
  n_list : mg "list" = none
  n_max : mg "max" = none
  n_min : mg "min" = none
  n_ord : mg "ord" = none
  n_range : mg "range" = none
  n_set : mg "set" = none
  n_sorted : mg "sorted" = none
  n_str : mg "str" = none
  n_tuple : mg "tuple" = none
  c_LEAST_INT : ∃ u, mg "LEAST_INT" = some u ∧ RelV (.int (-2147483648)) u
  c_MOST_INT : ∃ u, mg "MOST_INT" = some u ∧ RelV (.int 2147483647) u
  c_MOST_SIGNS_words : ∃ u, mg "MOST_SIGNS_words" = some u ∧ RelV (.int 12) u
  c_SMALL : ∃ u, mg "SMALL" = some u ∧ RelV (.str (tx (cs "abcdefghijklmnopqrstuvwxyz"))) u
  c_GREAT : ∃ u, mg "GREAT" = some u ∧ RelV (.str (tx (cs "ABCDEFGHIJKLMNOPQRSTUVWXYZ"))) u
  c_FIGURES : ∃ u, mg "FIGURES" = some u ∧ RelV (.str (tx (cs "0123456789"))) u
  a_SIGNS : Addr
  c_SIGNS : ∃ u, mg "SIGNS" = some u ∧ RelV (.ref a_SIGNS) u
  t_SIGNS : ∀ H : Hp, SqT K H a_SIGNS [.str (tx (cs "+")), .str (tx (cs "-")), .str (tx (cs "*")), .str (tx (cs "<")), .str (tx (cs "="))]
  a_RESERVED : Addr
  c_RESERVED : ∃ u, mg "RESERVED" = some u ∧ RelV (.ref a_RESERVED) u
  t_RESERVED : ∀ H : Hp, SqT K H a_RESERVED [.str (tx (cs "ask")), .str (tx (cs "do")), .str (tx (cs "else")), .str (tx (cs "end")), .str (tx (cs "false")), .str (tx (cs "fn")), .str (tx (cs "fst")), .str (tx (cs "handle")), .str (tx (cs "if")), .str (tx (cs "in")), .str (tx (cs "let")), .str (tx (cs "match")), .str (tx (cs "module")), .str (tx (cs "rec")), .str (tx (cs "return")), .str (tx (cs "snd")), .str (tx (cs "then")), .str (tx (cs "true")), .str (tx (cs "use")), .str (tx (cs "with")), .str (tx (cs "int")), .str (tx (cs "bool")), .str (tx (cs "unit"))]
  c_INT : ∃ u, mg "INT" = some u ∧ RelV (.str (tx (cs "int"))) u
  c_BOOL : ∃ u, mg "BOOL" = some u ∧ RelV (.str (tx (cs "bool"))) u
  c_UNIT : ∃ u, mg "UNIT" = some u ∧ RelV (.str (tx (cs "unit"))) u
  c_NIL : ∃ u, mg "NIL" = some u ∧ RelV (.str (tx (cs "nil"))) u
  c_VAR : ∃ u, mg "VAR" = some u ∧ RelV (.str (tx (cs "var"))) u
  c_FN : ∃ u, mg "FN" = some u ∧ RelV (.str (tx (cs "fn"))) u
  c_CALL : ∃ u, mg "CALL" = some u ∧ RelV (.str (tx (cs "call"))) u
  c_LET : ∃ u, mg "LET" = some u ∧ RelV (.str (tx (cs "let"))) u
  c_REC : ∃ u, mg "REC" = some u ∧ RelV (.str (tx (cs "rec"))) u
  c_IF : ∃ u, mg "IF" = some u ∧ RelV (.str (tx (cs "if"))) u
  c_OP : ∃ u, mg "OP" = some u ∧ RelV (.str (tx (cs "op"))) u
  c_PAIR : ∃ u, mg "PAIR" = some u ∧ RelV (.str (tx (cs "pair"))) u
  c_FIRST : ∃ u, mg "FIRST" = some u ∧ RelV (.str (tx (cs "first"))) u
  c_SECOND : ∃ u, mg "SECOND" = some u ∧ RelV (.str (tx (cs "second"))) u
  c_CONS : ∃ u, mg "CONS" = some u ∧ RelV (.str (tx (cs "cons"))) u
  c_MATCH : ∃ u, mg "MATCH" = some u ∧ RelV (.str (tx (cs "match"))) u
  c_ASK : ∃ u, mg "ASK" = some u ∧ RelV (.str (tx (cs "ask"))) u
  c_HANDLE : ∃ u, mg "HANDLE" = some u ∧ RelV (.str (tx (cs "handle"))) u
  c_MOST_VALUE_NODES : ∃ u, mg "MOST_VALUE_NODES" = some u ∧ RelV (.int 20000) u
  c_MOST_VALUE_DEEP : ∃ u, mg "MOST_VALUE_DEEP" = some u ∧ RelV (.int 150) u
  -- CHILDREN: not written
  -- LONG: not written
  c_BEGUN : ∃ u, mg "BEGUN" = some u ∧ RelV (.str (tx (cs "begun"))) u
  c_ASKED : ∃ u, mg "ASKED" = some u ∧ RelV (.str (tx (cs "asked"))) u
  c_ANSWERED : ∃ u, mg "ANSWERED" = some u ∧ RelV (.str (tx (cs "answered"))) u
  c_KEPT : ∃ u, mg "KEPT" = some u ∧ RelV (.str (tx (cs "kept"))) u
  c_ENDED : ∃ u, mg "ENDED" = some u ∧ RelV (.str (tx (cs "ended"))) u
  c_FUN : ∃ u, mg "FUN" = some u ∧ RelV (.str (tx (cs "fun"))) u
  c_UNDER : ∃ u, mg "UNDER" = some u ∧ RelV (.int 9973) u
  c_MOST_SIGNS_journals : ∃ u, mg "MOST_SIGNS_journals" = some u ∧ RelV (.int 200000) u
  -- MOST_COUNT: not written
  c_MOST_DEEP : ∃ u, mg "MOST_DEEP" = some u ∧ RelV (.int 150) u
  -- PLAIN: not written

end K68

set_option maxHeartbeats 1000000
/-! Kd: kinds, rows, puttings as data, in plain Lean. -/
namespace Kd
open PySem PySem.Spec PyProof.Rows Ak TL
open L2 (V Hp)
/-! ### size -/
mutual
def sz : PyData → Nat
  | .str x => 1 + x.length
  | .list ds => 1 + szAll ds
  | .tuple ds => 1 + szAll ds
  | _ => 1
def szAll : List PyData → Nat
  | [] => 0
  | d :: ds => sz d + szAll ds
end
theorem sz_pos (d : PyData) : 1 ≤ sz d := by cases d <;> simp [sz] <;> omega
theorem szAll_len : ∀ ds : List PyData, ds.length ≤ szAll ds
  | [] => Nat.le_refl _
  | d :: ds => by
    have := szAll_len ds
    have := sz_pos d
    simp only [szAll, List.length_cons]
    omega
theorem szAll_app : ∀ a b : List PyData, szAll (a ++ b) = szAll a + szAll b
  | [], b => by simp [szAll]
  | x :: a, b => by
    show sz x + szAll (a ++ b) = sz x + szAll a + szAll b
    rw [szAll_app a b]
    omega
theorem szAll_mem : ∀ {ds : List PyData} {d : PyData}, d ∈ ds → sz d ≤ szAll ds
  | x :: ds, d, h => by
    rcases List.mem_cons.mp h with rfl | h
    · simp only [szAll]; omega
    · have := szAll_mem h
      simp only [szAll]; omega
/-! ### signs of a name -/
def isSml (c : Nat) : Bool := decide (97 ≤ c) && decide (c ≤ 122)
def isGrt (c : Nat) : Bool := decide (65 ≤ c) && decide (c ≤ 90)
def isDig (c : Nat) : Bool := decide (48 ≤ c) && decide (c ≤ 57)
def askS (z : List Nat) : Bool := (decide (1 ≤ z.length) && decide (z.length ≤ 12)) && (isGrt (z.headD 0) && z.all fun c => isSml c || isGrt c || isDig c)
def askD : PyData → Bool
  | .str x => askS (tl x)
  | _ => false
abbrev countD : PyData → Bool
  | .int i => decide (0 ≤ i)
  | _ => false
abbrev integerD : PyData → Bool
  | .int _ => true
  | _ => false
/-! ### texts in order -/
def leS (a b : Str) : Prop := a.cps.toList ≤ b.cps.toList
theorem leS_iff {a b : Str} : leS a b ↔ ltCps b.cps.toList a.cps.toList = false := by
  rw [ltCps_eq, decide_eq_false_iff_not]
  exact Iff.rfl
theorem rising_pw : ∀ (r : List Str) (p : Str), risingS p r = true → (p :: r).Pairwise leS
  | [], p, _ => by simp
  | x :: r, p, h => by
    simp only [risingS, Bool.and_eq_true, Bool.not_eq_true'] at h
    have ih := rising_pw r x h.2
    have hx : leS p x := leS_iff.mpr h.1
    refine List.pairwise_cons.mpr ⟨fun y hy => ?_, ih⟩
    rcases List.mem_cons.mp hy with rfl | hy
    · exact hx
    · exact List.le_trans hx ((List.pairwise_cons.mp ih).1 y hy)
theorem sortedS_pw {l : List Str} (h : sortedS l = true) : l.Pairwise leS := by
  cases l with
  | nil => exact .nil
  | cons x r => exact rising_pw r x h
theorem sortedS_iff {l : List Str} : sortedS l = true ↔ l.Pairwise leS := ⟨sortedS_pw, fun h => sortedS_of_pairwise l (h.imp fun {a b} q => leS_iff.mp q)⟩
theorem leS_antisymm {a b : Str} (h1 : leS a b) (h2 : leS b a) : a = b := by
  have := List.le_antisymm h1 h2
  exact ext_tl this
/-- the sorted ones of a list are its own, if it is sorted; else others -/
theorem sorted_is {xs ys : List Str} (hp : ys.Perm xs) (hs : sortedS ys = true) : (xs = ys) ↔ sortedS xs = true := by
  constructor
  · rintro rfl
    exact hs
  · intro h
    exact List.Perm.eq_of_pairwise (le := leS) (fun a b _ _ h1 h2 => leS_antisymm h1 h2) (sortedS_pw h) (sortedS_pw hs) hp.symm
def textsOf : List PyData → List Str
  | [] => []
  | .str x :: ds => x :: textsOf ds
  | _ :: ds => textsOf ds
/-! ### names in a tuple -/
theorem asks_texts {H : Hp} {A : Addr → Prop} : ∀ {vs : List V} {ds : List PyData}, DvAll H A vs ds → ds.all askD = true → ∃ ss : List Str, vs = ss.map V.str ∧ ds = ss.map PyData.str ∧ ∀ s ∈ ss, askS (tl s) = true
  | _, _, .nil, _ => ⟨[], rfl, rfl, by simp⟩
  | _, _, .cons (v := v) (d := d) h r, ha => by
    simp only [List.all_cons, Bool.and_eq_true] at ha
    obtain ⟨ss, e1, e2, e3⟩ := asks_texts r ha.2
    cases h with
    | str x => exact ⟨x :: ss, by rw [e1]; rfl, by rw [e2]; rfl, fun s hs => by
        rcases List.mem_cons.mp hs with rfl | hs
        · exact ha.1
        · exact e3 s hs⟩
    | _ => exact absurd ha.1 Bool.false_ne_true
theorem ask_signs {z : List Nat} (h : askS z = true) : ∀ c ∈ z, c < 128 := by
  unfold askS at h
  simp only [Bool.and_eq_true, List.all_eq_true] at h
  intro c hc
  have := h.2.2 c hc
  simp only [isSml, isGrt, isDig, Bool.or_eq_true, Bool.and_eq_true, decide_eq_true_eq] at this
  omega
theorem texts_lay {ss : List Str} (h : ∀ s ∈ ss, askS (tl s) = true) : SeqAt.shaped (.list (ss.map PyData.str)) = true := by
  have a : ∀ l : List Str, (∀ s ∈ l, askS (tl s) = true) → PyData.canLayAll0 (l.map PyData.str) = true := by
    intro l
    induction l with
    | nil => intro _; rfl
    | cons x l ih =>
      intro h
      show (PyData.strOk x && PyData.canLayAll0 (l.map PyData.str)) = true
      rw [ih fun s hs => h s (List.mem_cons_of_mem _ hs), Bool.and_true]
      have := ask_signs (h x List.mem_cons_self)
      unfold PyData.strOk
      rw [Array.all_eq_true_iff_forall_mem]
      intro c hc
      have := this c (Array.mem_toList_iff.mpr hc)
      simp
      omega
  have b : ∀ l : List Str, PyData.depthAll (l.map PyData.str) = 0 := by
    intro l
    induction l with
    | nil => simp [PyData.depthAll]
    | cons x l ih => show PyData.depthAll (PyData.str x :: l.map PyData.str) = 0; simp [PyData.depthAll, PyData.depth, ih]
  unfold SeqAt.shaped
  simp only [PyData.canLay0, a ss h, PyData.depth, b, Bool.true_and, decide_eq_true_eq]
  omega
theorem eqv_texts : ∀ a b : List Str, PyData.eqv (.list (a.map PyData.str)) (.list (b.map PyData.str)) = decide (a = b)
  | [], [] => by simp [PyData.eqv, PyData.eqvAll]
  | [], _ :: _ => by simp [PyData.eqv, PyData.eqvAll]
  | _ :: _, [] => by simp [PyData.eqv, PyData.eqvAll]
  | x :: a, y :: b => by
    have ih := eqv_texts a b
    simp only [PyData.eqv] at ih
    simp only [List.map_cons, PyData.eqv, PyData.eqvAll, ih]
    rw [Bool.eq_iff_iff]
    simp
theorem textsOf_map : ∀ ss : List Str, textsOf (ss.map PyData.str) = ss
  | [] => rfl
  | s :: ss => by
    show s :: textsOf (ss.map PyData.str) = s :: ss
    rw [textsOf_map ss]
/-! ### kinds, rows, puttings -/
def namesD : PyData → Bool
  | .tuple ds => ds.all askD && sortedS (textsOf ds)
  | _ => false
def tailD : PyData → Bool
  | .none => true
  | d => countD d
def w (s : String) : Str := tx (cs s)
def rowD : PyData → Bool
  | .tuple [.str x, ns, t] => decide (x = w "row") && (namesD ns && tailD t)
  | _ => false
def plainW : List Str := [w "int", w "bool", w "unit"]
def kindD : PyData → Bool
  | .tuple [.str x] => decide (x ∈ plainW)
  | .tuple [.str x, a] => if x = w "list" then kindD a else if x = w "any" then countD a else false
  | .tuple [.str x, a, b] => if x = w "pair" then kindD a && kindD b else false
  | .tuple [.str x, a, r, b] => if x = w "fn" then rowD r && (kindD a && kindD b) else false
  | _ => false
/-- kinds of data: no function, no open kind -/
def dataD : PyData → Bool
  | .tuple [.str x] => decide (x ∈ plainW)
  | .tuple [.str x, a] => if x = w "list" then dataD a else false
  | .tuple [.str x, a, b] => if x = w "pair" then dataD a && dataD b else false
  | _ => false
def fstInt : PyData → Int
  | .tuple (.int i :: _) => i
  | _ => 0
def pairOf (p : PyData → Bool) : PyData → Bool
  | .tuple [a, b] => countD a && p b
  | _ => false
def putBy (p : PyData → Bool) : PyData → Bool
  | .tuple ds => ds.all (pairOf p) && decide ((ds.map fstInt).Pairwise (· < ·))
  | _ => false
def puttingD : PyData → Bool
  | .tuple [a, b] => putBy kindD a && putBy rowD b
  | _ => false
theorem data_kind : ∀ d : PyData, dataD d = true → kindD d = true := by
  intro d
  fun_induction dataD d <;> simp_all [kindD]
end Kd

set_option maxHeartbeats 4000000
/-! W68a: the package's defs. -/
namespace K68
open PySem PySem.Spec PyProof.Rows L2 TL Ak Kd
local macro_rules | `(tactic| tm_at "rd1") => `(tactic| with_reducible first
  | refine r_seq ?_ | refine r_ifS ?_ | refine r_ret ?_ | refine r_asg ?_ | refine r_next ?_ | refine r_drop ?_ | refine r_par ?_ | refine r_brk ?_ | refine r_cont ?_
  | refine r_op ?_ | refine r_c ?_ | refine r_cb ?_ | refine r_cons ?_ | refine r_nil ?_ | refine r_un ?_ | refine r_tB ?_ | refine r_test ?_ | refine r_not ?_ | refine r_and ?_ | refine r_or ?_ | refine r_andV ?_ | refine r_orV ?_ | refine r_notV ?_ | refine r_if ?_ | refine r_chain ?_
  | refine r_tup ?_ | refine r_lst ?_ | refine r_lstN ?_ | refine r_sl ?_ | refine r_part ?_ | refine r_nopart ?_ | refine r_call ?_ | refine r_callK ?_ | refine r_bm ?_ | refine r_bm0 ?_ | refine r_m1 ?_ | refine r_m0 ?_ | refine r_isN ?_ | refine r_notN ?_
  | refine r_gcons ?_ | refine r_gnil ?_ | refine r_gsub ?_ | refine r_name ?_ | refine r_ilist ?_ | refine r_itup ?_ | refine r_istr ?_ | refine r_irng1 ?_ | refine r_ienum ?_ | refine r_mko ?_ | refine r_yes ?_ | refine r_lc ?_ | refine r_for ?_ | refine turn_i ?_
  | refine r_dput ?_ | refine r_dget ?_ | refine r_izipA ?_ | refine r_ienumT ?_ | refine r_back ?_ | refine r_dsetd ?_ | refine r_dgetN ?_ | refine r_dnotinN ?_ | refine r_isTr ?_ | refine r_lockAsg ?_ | refine r_bl ?_ | refine r_int ?_ | refine r_two ?_ | refine r_str ?_ | refine r_two1 ?_
  | refine b_t ?_ | refine b_f ?_ | refine b_nt ?_ | refine b_nf ?_ | refine q_u ?_ | refine q_i0 ?_ | refine q_ipI ?_ | refine b_add_int ?_ | refine b_eq_int ?_ | refine b_ne_int ?_ | refine b_eq_tx ?_ | refine b_ne_tx ?_ | refine b_in_sg ?_ | refine q_ni_sg ?_)
local macro_rules | `(tactic| tm_at "rd2") => `(tactic| first
  | tm_at "rd1" | refine r_var rfl ?_ | refine r_aug rfl ?_ 
  | refine And.intro (small_n (by simp)) ?_ | tm_at "rdl" | tm_at "rdk")
local macro_rules | `(tactic| tm_at "rdk") => `(tactic| with_reducible first | refine b_isTup (by assumption) ?_ | refine b_isInt (by assumption) ?_ | refine b_isBl (by assumption) ?_ | refine b_isStr (by assumption) ?_ | refine b_isLst (by assumption) ?_)
local macro_rules | `(tactic| tm_at "rdl") => `(tactic| first | (with_reducible refine q_len_tx (by assumption) ?_) | (with_reducible refine q_len_tx (by omega) ?_) | (with_reducible refine q_lenB_tx (by assumption) ?_) | (with_reducible refine q_lenB_tx (by omega) ?_))
local macro_rules | `(tactic| tm_at "rd") => `(tactic| repeat tm_at "rd2")

section
variable {P : Program} {w : World} {K : PySem.W.Frag} {mg : Str → Option Value} {base : Heap}
/-- a def that tells of any value by f, and leaves all as it was -/
def spB (n : Nat) (f : PyData → Bool) : Sp := fun vs H Q _ => ∃ (A : Addr → Prop) (v : V) (d : PyData), vs = [v] ∧ Dv H A v d ∧ sz d ≤ n ∧ ∀ H', Same H H' → Q (.bl (f d)) H'
theorem ok_is_integer (T : Tx K mg) : FnOk P w K mg base CX0 1 T.f_is_integer T.fd_is_integer ["value"] (spB 90000 integerD) := by
  refine T.d_is_integer.F.ok sc_is_integer (fun vs H Q E h => ?_) (fun cdv A outer s H vs Q E hr h => ?_)
  · obtain ⟨_, v, d, rfl, _⟩ := h
    rfl
  · obtain ⟨A', v, d, rfl, hd, hz, k⟩ := h
    have hu := hu_of hr
    have hu64 := hr.units
    refine ⟨_, (pss_one (ps_ret (pe_and (pe_callB (caIsB (K := K) rfl) (by rfl) T.n_isinstance (by decide +kernel) (pa_cons (pv 0) (pa_cons (pe_bltn (v := .ty "int") (u := .type "int") (by rfl) T.n_int (by decide +kernel) rfl) pa_nil))) (pe_one (pe_not (pe_callB (caIsB (K := K) rfl) (by rfl) T.n_isinstance (by decide +kernel) (pa_cons (pv 0) (pa_cons (pe_bltn (v := .ty "bool") (u := .type "bool") (by rfl) T.n_bool (by decide +kernel) rfl) pa_nil)))))))), ?_⟩
    have k0 := k H (Same.refl _)
    cases d <;> (tm_at "rd"; exact k0)
theorem ok_is_count (T : Tx K mg) : FnOk P w K mg base CX0 2 T.f_is_count T.fd_is_count ["value"] (spB 90000 countD) := by
  have G_is_integer := ok_is_integer (P := P) (w := w) (base := base) T
  have b_is_integer := T.d_is_integer.F.binds (ps := ["value"]) fun _ _ _ _ _ _ us hl => match us, hl with | [_], _ => rfl
  refine T.d_is_count.F.ok sc_is_count (fun vs H Q E h => ?_) (fun cdv A outer s H vs Q E hr h => ?_)
  · obtain ⟨_, v, d, rfl, _⟩ := h
    rfl
  · obtain ⟨A', v, d, rfl, hd, hz, k⟩ := h
    have hu := hu_of hr
    have hu64 := hr.units
    refine ⟨_, (pss_one (ps_ret (pe_and (pe_call G_is_integer (hr.mono (by first | decide | omega)) rfl T.d_is_integer.g T.d_is_integer.F.kp b_is_integer .nil pass0 (pa_cons (pv 0) pa_nil)) (pe_one (pe_cmpR op_ge (pv 0) pe_int (nomark _)))))), ?_⟩
    tm_at "rd"
    refine ⟨A', v, d, rfl, hd, hz, fun H1 s1 => ?_⟩
    have k1 := k H1 s1
    refine ⟨_, rfl, ?_⟩
    cases d with
    | int i =>
      obtain rfl := hd.int_inv
      tm_at "rd"
      exact k1
    | _ =>
      tm_at "rd"
      exact k1
/-- a tuple of n -/
def manyD (n : Nat) : PyData → Bool
  | .tuple ds => decide (ds.length = n)
  | _ => false
def sp_is_row : Sp := fun vs H Q _ => ∃ (A : Addr → Prop) (v : V) (d : PyData) (n : Nat), vs = [v, .int (n : Int)] ∧ Dv H A v d ∧ ∀ H', Same H H' → Q (.bl (manyD n d)) H'
theorem ok_is_row (T : Tx K mg) : FnOk P w K mg base CX0 1 T.f_is_row T.fd_is_row ["value", "many"] sp_is_row := by
  refine T.d_is_row.F.ok sc_is_row (fun vs H Q E h => ?_) (fun cdv A outer s H vs Q E hr h => ?_)
  · obtain ⟨_, v, d, n, rfl, _⟩ := h
    rfl
  · obtain ⟨A', v, d, n, rfl, hd, k⟩ := h
    have hu := hu_of hr
    have hu64 := hr.units
    refine ⟨_, (pss_one (ps_ret (pe_and (pe_callB (caIsB (K := K) rfl) (by rfl) T.n_isinstance (by decide +kernel) (pa_cons (pv 0) (pa_cons (pe_bltn (v := .ty "tuple") (u := .type "tuple") (by rfl) T.n_tuple (by decide +kernel) rfl) pa_nil))) (pe_one (pe_cmpR (opEqB (K := K) rfl hu64) (pe_callB (caLenB (K := K) rfl) (by rfl) T.n_len (by decide +kernel) (pa_cons (pv 0) pa_nil)) (pv 1) (nomark _)))))), ?_⟩
    have k0 := k H (Same.refl _)
    cases d with
    | tuple ds =>
      obtain ⟨a, xs, rfl, ha, ht, hds⟩ := hd.tup_inv
      have e := hds.length
      tm_at "rd"
      refine q_lenB_tup (ht.sq) ?_
      tm_at "rd"
      have e2 : decide ((xs.length : Int) = (n : Int)) = decide (ds.length = n) := by
        rw [e]
        exact decide_eq_decide.mpr ⟨fun h => by omega, fun h => by omega⟩
      rw [e2]
      exact k0
    | _ =>
      tm_at "rd"
      exact k0
/-! ### has_signs, is_ask_name -/
theorem mem_small (c : Nat) : decide (c ∈ cs "abcdefghijklmnopqrstuvwxyz") = Kd.isSml c := by
  have e : cs "abcdefghijklmnopqrstuvwxyz" = List.range' 97 26 := by decide
  rw [e, Bool.eq_iff_iff, decide_eq_true_eq, List.mem_range'_1]
  simp only [Kd.isSml, Bool.and_eq_true, decide_eq_true_eq]
  omega
theorem mem_great (c : Nat) : decide (c ∈ cs "ABCDEFGHIJKLMNOPQRSTUVWXYZ") = Kd.isGrt c := by
  have e : cs "ABCDEFGHIJKLMNOPQRSTUVWXYZ" = List.range' 65 26 := by decide
  rw [e, Bool.eq_iff_iff, decide_eq_true_eq, List.mem_range'_1]
  simp only [Kd.isGrt, Bool.and_eq_true, decide_eq_true_eq]
  omega
theorem mem_digits (c : Nat) : decide (c ∈ cs "0123456789") = Kd.isDig c := by
  have e : cs "0123456789" = List.range' 48 10 := by decide
  rw [e, Bool.eq_iff_iff, decide_eq_true_eq, List.mem_range'_1]
  simp only [Kd.isDig, Bool.and_eq_true, decide_eq_true_eq]
  omega
def hasS (z a b : List Nat) : Bool := (decide (1 ≤ z.length) && decide (z.length ≤ 12)) && (decide (z.headD 0 ∈ a) && z.all fun c => decide (c ∈ b))
def hasD (a b : List Nat) : PyData → Bool
  | .str x => hasS (tl x) a b
  | _ => false
def sp_has_signs : Sp := fun vs H Q _ => ∃ (A : Addr → Prop) (v : V) (d : PyData) (a b : List Nat), vs = [v, .str (tx a), .str (tx b)] ∧ Dv H A v d ∧ sz d ≤ 90000 ∧ ∀ H', Same H H' → Q (.bl (hasD a b d)) H'
theorem ok_has_signs (T : Tx K mg) : FnOk P w K mg base CX0 1 T.f_has_signs T.fd_has_signs ["value", "first", "others"] sp_has_signs := by
  refine T.d_has_signs.F.ok sc_has_signs (fun vs H Q E h => ?_) (fun cdv A outer s H vs Q E hr h => ?_)
  · obtain ⟨_, v, d, a, b, rfl, _⟩ := h
    rfl
  · obtain ⟨A', v, d, a, b, rfl, hd, hz, k⟩ := h
    have hu := hu_of hr
    have hu64 := hr.units
    refine ⟨_, (pss_cons (ps_if (PW.pt (pw_or (pt_not (pt_val (pe_callB (caIsB (K := K) rfl) (by rfl) T.n_isinstance (by decide +kernel) (pa_cons (pv 0) (pa_cons (pe_bltn (v := .ty "str") (u := .type "str") (by rfl) T.n_str (by decide +kernel) rfl) pa_nil))))) (pw_or1 (pt_not (pt_chain op_le op_le pe_int (pe_callB (caLenB (K := K) rfl) (by rfl) T.n_len (by decide +kernel) (pa_cons (pv 0) pa_nil)) (pe_const T.c_MOST_SIGNS_words (by rfl))))))) (pss_one (ps_ret pe_bl)) pss_nil)
      (pss_one (ps_ret (pe_and (pe_cmpR (opInB (K := K) rfl hu64) (pe_ix (ixAny (K := K) rfl) (pv 0) pe_int (fun _ _ => rfl)) (pv 1) (by rfl)) (pe_one (pe_callB (caAll (K := K) rfl rfl) (by rfl) T.n_all (by decide +kernel) (pa_cons (pe_lc (own := [("sign", 3)]) (g := gName 3) rfl sc_has_signs.nd (pi_str (pv 0)) (blkOk_by (own := [("sign", 3)]) (N := nm_has_signs) (sc := defScope s_has_signs) (by decide +kernel)) (fun _ _ _ _ _ => pg_name (i := 3) sc_has_signs.nd rfl (Or.inl rfl)) (fun _ _ _ _ _ => pts_nil) (fun _ _ _ _ _ => (pe_cmpR (opInB (K := K) rfl hu64) (pv 3) (pv 2) (by rfl)))) pa_nil))))))), ?_⟩
    have k0 := k H (Same.refl _)
    cases d with
    | str x =>
      obtain rfl := hd.str_inv
      obtain ⟨z, rfl⟩ : ∃ z, x = tx z := ⟨tl x, (tx_tl x).symm⟩
      have hz2 : z.length ≤ 90000 := by
        simp only [sz, len_tx] at hz
        omega
      replace k : ∀ H', Same H H' → Q (.bl (hasS z a b)) H' := k
      tm_at "rd"
      refine bd (fun h1 => ?_) (fun h1 => ?_)
      · tm_at "rd"
        refine bnd (fun h2 => ?_) (fun h2 => ?_)
        · tm_at "rd"
          have e : hasS z a b = false := by
            unfold hasS
            rw [decide_eq_false (show ¬ z.length ≤ 12 by omega)]
            simp
          rw [← e]
          exact k _ (Same.refl _)
        · tm_at "rd"
          cases z with
          | nil => simp at h1
          | cons c t =>
            refine q_ix_tx (j := 0) (c := c) (by omega) rfl ?_
            tm_at "rd"
            have e : hasS (c :: t) a b = (decide (c ∈ a) && (c :: t).all fun c => decide (c ∈ b)) := by
              unfold hasS
              rw [decide_eq_true (show 1 ≤ (c :: t).length by omega), decide_eq_true (show (c :: t).length ≤ 12 by omega)]
              rfl
            rw [e] at k
            refine bd (fun h3 => ?_) (fun h3 => ?_)
            · rw [decide_eq_true h3] at k
              tm_at "rd"
              intro D hD
              refine lc_txt (fun _ => true) (fun x => .bl (decide (x ∈ b))) (by rw [len_tx]; exact Nat.lt_of_le_of_lt hz2 (by decide)) (fun x _ H2 Q2 s2 q => q) (fun x _ _ H2 Q2 s2 q => ?_) hD ?_
              · tm_at "rd"
                exact q
              · refine ⟨D, (c :: t).map fun x => decide (x ∈ b), rfl, SqL.of (by rw [upd_same, filt_all, List.map_map]; rfl), ?_⟩
                have e2 : ((c :: t).map fun x => decide (x ∈ b)).all id = (c :: t).all fun c => decide (c ∈ b) := by rw [List.all_map]; rfl
                rw [e2]
                exact k _ (same_new hD)
            · rw [decide_eq_false h3] at k
              exact k _ (Same.refl _)
      · tm_at "rd"
        have e : hasS z a b = false := by
          unfold hasS
          rw [decide_eq_false (show ¬ 1 ≤ z.length by omega)]
          simp
        rw [← e]
        exact k _ (Same.refl _)
    | _ =>
      tm_at "rd"
      exact k0
theorem hasD_ask (d : PyData) : hasD (cs "ABCDEFGHIJKLMNOPQRSTUVWXYZ") (cs "abcdefghijklmnopqrstuvwxyz" ++ cs "ABCDEFGHIJKLMNOPQRSTUVWXYZ" ++ cs "0123456789") d = askD d := by
  cases d with
  | str x =>
    show hasS _ _ _ = askS _
    unfold hasS askS
    rw [mem_great]
    congr 2
    congr 1
    funext c
    rw [Bool.eq_iff_iff, decide_eq_true_eq, List.mem_append, List.mem_append, Bool.or_eq_true, Bool.or_eq_true, ← mem_small, ← mem_great, ← mem_digits, decide_eq_true_eq, decide_eq_true_eq, decide_eq_true_eq]
  | _ => rfl
theorem ok_is_ask_name (T : Tx K mg) : FnOk P w K mg base CX0 2 T.f_is_ask_name T.fd_is_ask_name ["value"] (spB 90000 askD) := by
  have G_has_signs := ok_has_signs (P := P) (w := w) (base := base) T
  have b_has_signs := T.d_has_signs.F.binds (ps := ["value", "first", "others"]) fun _ _ _ _ _ _ us hl => match us, hl with | [_, _, _], _ => rfl
  refine T.d_is_ask_name.F.ok sc_is_ask_name (fun vs H Q E h => ?_) (fun cdv A outer s H vs Q E hr h => ?_)
  · obtain ⟨_, v, d, rfl, _⟩ := h
    rfl
  · obtain ⟨A', v, d, rfl, hd, hz, k⟩ := h
    have hu := hu_of hr
    have hu64 := hr.units
    refine ⟨_, (pss_one (ps_ret (pe_call G_has_signs (hr.mono (by first | decide | omega)) rfl T.d_has_signs.g T.d_has_signs.F.kp b_has_signs .nil pass0 (pa_cons (pv 0) (pa_cons (pe_const T.c_GREAT (by rfl)) (pa_cons (pe_op (opAddB (K := K) rfl) (pe_op (opAddB (K := K) rfl) (pe_const T.c_SMALL (by rfl)) (pe_const T.c_GREAT (by rfl))) (pe_const T.c_FIGURES (by rfl))) pa_nil)))))), ?_⟩
    tm_at "rd"
    refine b_add_tx (by decide) ?_
    tm_at "rd"
    refine b_add_tx (by decide) ?_
    tm_at "rd"
    refine ⟨A', v, d, _, _, rfl, hd, hz, fun H1 s1 => ?_⟩
    rw [hasD_ask]
    exact k _ s1
end
end K68

set_option maxHeartbeats 4000000
/-! W68b: the dicts of the module; nodes of data. -/
namespace K68
open PySem PySem.Spec PyProof.Rows L2 TL Ak Kd Jn
local macro_rules | `(tactic| tm_at "rd1") => `(tactic| with_reducible first
  | refine r_seq ?_ | refine r_ifS ?_ | refine r_ret ?_ | refine r_asg ?_ | refine r_next ?_ | refine r_drop ?_ | refine r_par ?_ | refine r_brk ?_ | refine r_cont ?_
  | refine r_op ?_ | refine r_c ?_ | refine r_cb ?_ | refine r_cons ?_ | refine r_nil ?_ | refine r_un ?_ | refine r_tB ?_ | refine r_test ?_ | refine r_not ?_ | refine r_and ?_ | refine r_or ?_ | refine r_andV ?_ | refine r_orV ?_ | refine r_notV ?_ | refine r_if ?_ | refine r_chain ?_
  | refine r_tup ?_ | refine r_lst ?_ | refine r_lstN ?_ | refine r_sl ?_ | refine r_part ?_ | refine r_nopart ?_ | refine r_call ?_ | refine r_callK ?_ | refine r_bm ?_ | refine r_bm0 ?_ | refine r_m1 ?_ | refine r_m0 ?_ | refine r_isN ?_ | refine r_notN ?_
  | refine r_gcons ?_ | refine r_gnil ?_ | refine r_gsub ?_ | refine r_name ?_ | refine r_ilist ?_ | refine r_itup ?_ | refine r_istr ?_ | refine r_irng1 ?_ | refine r_ienum ?_ | refine r_mko ?_ | refine r_yes ?_ | refine r_lc ?_ | refine r_for ?_ | refine turn_i ?_
  | refine r_dput ?_ | refine r_dget ?_ | refine r_izipA ?_ | refine r_ienumT ?_ | refine r_back ?_ | refine r_dsetd ?_ | refine r_dgetN ?_ | refine r_dnotinN ?_ | refine r_isTr ?_ | refine r_lockAsg ?_ | refine r_bl ?_ | refine r_int ?_ | refine r_two ?_ | refine r_str ?_ | refine r_two1 ?_
  | refine b_t ?_ | refine b_f ?_ | refine b_nt ?_ | refine b_nf ?_ | refine q_u ?_ | refine q_i0 ?_ | refine q_ipI ?_ | refine b_add_int ?_ | refine b_eq_int ?_ | refine b_ne_int ?_ | refine b_eq_tx ?_ | refine b_ne_tx ?_ | refine b_in_sg ?_ | refine q_ni_sg ?_)
local macro_rules | `(tactic| tm_at "rd2") => `(tactic| first
  | tm_at "rd1" | refine r_var rfl ?_ | refine r_aug rfl ?_ 
  | refine And.intro (small_n (by simp)) ?_ | tm_at "rdl" | tm_at "rdk")
local macro_rules | `(tactic| tm_at "rdk") => `(tactic| with_reducible first | refine b_isStrV ?_ | refine b_isBlV ?_ | refine b_isIntV ?_ | refine b_isIntB ?_ | refine b_isTupS (by assumption) ?_ | refine b_isTup (by assumption) ?_ | refine b_isInt (by assumption) ?_ | refine b_isBl (by assumption) ?_ | refine b_isStr (by assumption) ?_ | refine b_isLst (by assumption) ?_)
local macro_rules | `(tactic| tm_at "rdl") => `(tactic| first | (with_reducible refine q_len_tx (by assumption) ?_) | (with_reducible refine q_len_tx (by omega) ?_) | (with_reducible refine q_lenB_tx (by assumption) ?_) | (with_reducible refine q_lenB_tx (by omega) ?_))
local macro_rules | `(tactic| tm_at "rd") => `(tactic| repeat tm_at "rd2")
local macro_rules | `(tactic| tm_at "rdw") => `(tactic| repeat (first | tm_at "rd2" | with_reducible refine bd_t rfl ?_ | with_reducible refine bd_f (by decide) ?_ | with_reducible refine bnd_f rfl ?_ | with_reducible refine bnd_t (by decide) ?_))

structure Td (K : PySem.W.Frag) (mg : Str → Option Value) (w : World) where
  c_MOST_COUNT : ∃ u, mg "MOST_COUNT" = some u ∧ RelV (.int 1000000000000) u
  a_PLAIN : Addr
  c_PLAIN : ∃ u, mg "PLAIN" = some u ∧ RelV (.ref a_PLAIN) u
  k_PLAIN : KD K w a_PLAIN (["t", "f", "u", "n", "F"].map Str.ofString)
  a_PLAIN_t : Addr
  v_PLAIN_t : KAt K a_PLAIN (Str.ofString "t") (.ref a_PLAIN_t)
  t_PLAIN_t : ∀ H : Hp, SqT K H a_PLAIN_t [.str (tx (cs "bool")), .bl true]
  a_PLAIN_f : Addr
  v_PLAIN_f : KAt K a_PLAIN (Str.ofString "f") (.ref a_PLAIN_f)
  t_PLAIN_f : ∀ H : Hp, SqT K H a_PLAIN_f [.str (tx (cs "bool")), .bl false]
  a_PLAIN_u : Addr
  v_PLAIN_u : KAt K a_PLAIN (Str.ofString "u") (.ref a_PLAIN_u)
  t_PLAIN_u : ∀ H : Hp, SqT K H a_PLAIN_u [.str (tx (cs "unit"))]
  a_PLAIN_n : Addr
  v_PLAIN_n : KAt K a_PLAIN (Str.ofString "n") (.ref a_PLAIN_n)
  t_PLAIN_n : ∀ H : Hp, SqT K H a_PLAIN_n [.str (tx (cs "nil"))]
  a_PLAIN_F : Addr
  v_PLAIN_F : KAt K a_PLAIN (Str.ofString "F") (.ref a_PLAIN_F)
  t_PLAIN_F : ∀ H : Hp, SqT K H a_PLAIN_F [.str (tx (cs "fun"))]
  n_PLAIN_i : KNo K a_PLAIN (Str.ofString "i")
  n_PLAIN_p : KNo K a_PLAIN (Str.ofString "p")
  n_PLAIN_c : KNo K a_PLAIN (Str.ofString "c")
  a_DOUBLE : Addr
  c_DOUBLE : ∃ u, mg "DOUBLE" = some u ∧ RelV (.ref a_DOUBLE) u
  k_DOUBLE : KD K w a_DOUBLE (["p", "c"].map Str.ofString)
  v_DOUBLE_p : KAt K a_DOUBLE (Str.ofString "p") (.str (tx (cs "pair")))
  v_DOUBLE_c : KAt K a_DOUBLE (Str.ofString "c") (.str (tx (cs "cons")))
  a_LONG : Addr
  c_LONG : ∃ u, mg "LONG" = some u ∧ RelV (.ref a_LONG) u
  k_LONG : KD K w a_LONG (["int", "bool", "unit", "nil", "var", "fn", "call", "let", "rec", "if", "op", "pair", "first", "second", "cons", "match", "ask", "handle"].map Str.ofString)
  v_LONG_int : KAt K a_LONG (Str.ofString "int") (.int 2)
  v_LONG_bool : KAt K a_LONG (Str.ofString "bool") (.int 2)
  v_LONG_unit : KAt K a_LONG (Str.ofString "unit") (.int 1)
  v_LONG_nil : KAt K a_LONG (Str.ofString "nil") (.int 1)
  v_LONG_pair : KAt K a_LONG (Str.ofString "pair") (.int 3)
  v_LONG_cons : KAt K a_LONG (Str.ofString "cons") (.int 3)
  a_CHILDREN : Addr
  c_CHILDREN : ∃ u, mg "CHILDREN" = some u ∧ RelV (.ref a_CHILDREN) u
  k_CHILDREN : KD K w a_CHILDREN (["int", "bool", "unit", "nil", "var", "fn", "call", "let", "rec", "if", "op", "pair", "first", "second", "cons", "match", "ask"].map Str.ofString)
  a_CHILDREN_int : Addr
  v_CHILDREN_int : KAt K a_CHILDREN (Str.ofString "int") (.ref a_CHILDREN_int)
  t_CHILDREN_int : ∀ H : Hp, SqT K H a_CHILDREN_int []
  a_CHILDREN_bool : Addr
  v_CHILDREN_bool : KAt K a_CHILDREN (Str.ofString "bool") (.ref a_CHILDREN_bool)
  t_CHILDREN_bool : ∀ H : Hp, SqT K H a_CHILDREN_bool []
  a_CHILDREN_unit : Addr
  v_CHILDREN_unit : KAt K a_CHILDREN (Str.ofString "unit") (.ref a_CHILDREN_unit)
  t_CHILDREN_unit : ∀ H : Hp, SqT K H a_CHILDREN_unit []
  a_CHILDREN_nil : Addr
  v_CHILDREN_nil : KAt K a_CHILDREN (Str.ofString "nil") (.ref a_CHILDREN_nil)
  t_CHILDREN_nil : ∀ H : Hp, SqT K H a_CHILDREN_nil []
  a_CHILDREN_pair : Addr
  v_CHILDREN_pair : KAt K a_CHILDREN (Str.ofString "pair") (.ref a_CHILDREN_pair)
  t_CHILDREN_pair : ∀ H : Hp, SqT K H a_CHILDREN_pair [.int 1, .int 2]
  a_CHILDREN_cons : Addr
  v_CHILDREN_cons : KAt K a_CHILDREN (Str.ofString "cons") (.ref a_CHILDREN_cons)
  t_CHILDREN_cons : ∀ H : Hp, SqT K H a_CHILDREN_cons [.int 1, .int 2]
section
variable {K : PySem.W.Frag} {mg : Str → Option Value} {w : World}
theorem Td.PLAIN_t (D : Td K mg w) : KAt K D.a_PLAIN (tx (cs "t")) (.ref D.a_PLAIN_t) := by have := D.v_PLAIN_t; rwa [lit_eq] at this
theorem Td.PLAIN_f (D : Td K mg w) : KAt K D.a_PLAIN (tx (cs "f")) (.ref D.a_PLAIN_f) := by have := D.v_PLAIN_f; rwa [lit_eq] at this
theorem Td.PLAIN_u (D : Td K mg w) : KAt K D.a_PLAIN (tx (cs "u")) (.ref D.a_PLAIN_u) := by have := D.v_PLAIN_u; rwa [lit_eq] at this
theorem Td.PLAIN_n (D : Td K mg w) : KAt K D.a_PLAIN (tx (cs "n")) (.ref D.a_PLAIN_n) := by have := D.v_PLAIN_n; rwa [lit_eq] at this
theorem Td.PLAIN_F (D : Td K mg w) : KAt K D.a_PLAIN (tx (cs "F")) (.ref D.a_PLAIN_F) := by have := D.v_PLAIN_F; rwa [lit_eq] at this
theorem Td.no_PLAIN_i (D : Td K mg w) : KNo K D.a_PLAIN (tx (cs "i")) := by have := D.n_PLAIN_i; rwa [lit_eq] at this
theorem Td.no_PLAIN_p (D : Td K mg w) : KNo K D.a_PLAIN (tx (cs "p")) := by have := D.n_PLAIN_p; rwa [lit_eq] at this
theorem Td.no_PLAIN_c (D : Td K mg w) : KNo K D.a_PLAIN (tx (cs "c")) := by have := D.n_PLAIN_c; rwa [lit_eq] at this
theorem Td.DOUBLE_p (D : Td K mg w) : KAt K D.a_DOUBLE (tx (cs "p")) (.str (tx (cs "pair"))) := by have := D.v_DOUBLE_p; rwa [lit_eq] at this
theorem Td.DOUBLE_c (D : Td K mg w) : KAt K D.a_DOUBLE (tx (cs "c")) (.str (tx (cs "cons"))) := by have := D.v_DOUBLE_c; rwa [lit_eq] at this
theorem Td.LONG_int (D : Td K mg w) : KAt K D.a_LONG (tx (cs "int")) (.int 2) := by have := D.v_LONG_int; rwa [lit_eq] at this
theorem Td.LONG_bool (D : Td K mg w) : KAt K D.a_LONG (tx (cs "bool")) (.int 2) := by have := D.v_LONG_bool; rwa [lit_eq] at this
theorem Td.LONG_unit (D : Td K mg w) : KAt K D.a_LONG (tx (cs "unit")) (.int 1) := by have := D.v_LONG_unit; rwa [lit_eq] at this
theorem Td.LONG_nil (D : Td K mg w) : KAt K D.a_LONG (tx (cs "nil")) (.int 1) := by have := D.v_LONG_nil; rwa [lit_eq] at this
theorem Td.LONG_pair (D : Td K mg w) : KAt K D.a_LONG (tx (cs "pair")) (.int 3) := by have := D.v_LONG_pair; rwa [lit_eq] at this
theorem Td.LONG_cons (D : Td K mg w) : KAt K D.a_LONG (tx (cs "cons")) (.int 3) := by have := D.v_LONG_cons; rwa [lit_eq] at this
theorem Td.CHILDREN_int (D : Td K mg w) : KAt K D.a_CHILDREN (tx (cs "int")) (.ref D.a_CHILDREN_int) := by have := D.v_CHILDREN_int; rwa [lit_eq] at this
theorem Td.CHILDREN_bool (D : Td K mg w) : KAt K D.a_CHILDREN (tx (cs "bool")) (.ref D.a_CHILDREN_bool) := by have := D.v_CHILDREN_bool; rwa [lit_eq] at this
theorem Td.CHILDREN_unit (D : Td K mg w) : KAt K D.a_CHILDREN (tx (cs "unit")) (.ref D.a_CHILDREN_unit) := by have := D.v_CHILDREN_unit; rwa [lit_eq] at this
theorem Td.CHILDREN_nil (D : Td K mg w) : KAt K D.a_CHILDREN (tx (cs "nil")) (.ref D.a_CHILDREN_nil) := by have := D.v_CHILDREN_nil; rwa [lit_eq] at this
theorem Td.CHILDREN_pair (D : Td K mg w) : KAt K D.a_CHILDREN (tx (cs "pair")) (.ref D.a_CHILDREN_pair) := by have := D.v_CHILDREN_pair; rwa [lit_eq] at this
theorem Td.CHILDREN_cons (D : Td K mg w) : KAt K D.a_CHILDREN (tx (cs "cons")) (.ref D.a_CHILDREN_cons) := by have := D.v_CHILDREN_cons; rwa [lit_eq] at this
end

/-! ### tellings as data -/
def tlD : Tl → PyData
  | .int z => .tuple [.str (tx (cs "int")), .int z]
  | .tt => .tuple [.str (tx (cs "bool")), .bool true]
  | .uu => .tuple [.str (tx (cs "unit"))]
  | .nn => .tuple [.str (tx (cs "nil"))]
  | .pr a b => .tuple [.str (tx (cs "pair")), tlD a, tlD b]
  | .cn a b => .tuple [.str (tx (cs "cons")), tlD a, tlD b]
theorem tlD_only : ∀ t, tupOnly (tlD t) = true
  | .int z => rfl
  | .tt => rfl
  | .uu => rfl
  | .nn => rfl
  | .pr a b => by simp only [tlD, tupOnly, tupOnlyAll, tlD_only a, tlD_only b]; rfl
  | .cn a b => by simp only [tlD, tupOnly, tupOnlyAll, tlD_only a, tlD_only b]; rfl
abbrev Tv (K : PySem.W.Frag) (H : Hp) (v : V) (t : Tl) : Prop := Dp K H v (tlD t)
theorem Tv.kt {K : PySem.W.Frag} {H H' : Hp} {v : V} {t : Tl} (k : Kt H H') (h : Tv K H v t) : Tv K H' v t := Dp_kt k (tlD_only t) h
def szT : Tl → Nat
  | .pr a b => szT a + szT b + 1
  | .cn a b => szT a + szT b + 1
  | _ => 1
theorem szT_pos : ∀ t, 0 < szT t
  | .int _ => Nat.one_pos
  | .tt => Nat.one_pos
  | .uu => Nat.one_pos
  | .nn => Nat.one_pos
  | .pr a b => by simp only [szT]; omega
  | .cn a b => by simp only [szT]; omega
theorem szT_le : ∀ t, szT t + 1 ≤ 2 ^ depT t ∧ 0 < depT t
  | .int _ => by simp [szT, depT]
  | .tt => by simp [szT, depT]
  | .uu => by simp [szT, depT]
  | .nn => by simp [szT, depT]
  | .pr a b => by
    have h1 := (szT_le a).1
    have h2 := (szT_le b).1
    have e1 : 2 ^ depT a ≤ 2 ^ (max (depT a) (depT b)) := Nat.pow_le_pow_right (by decide) (by omega)
    have e2 : 2 ^ depT b ≤ 2 ^ (max (depT a) (depT b)) := Nat.pow_le_pow_right (by decide) (by omega)
    simp only [szT, depT, Nat.pow_succ]
    omega
  | .cn a b => by
    have h1 := (szT_le a).1
    have h2 := (szT_le b).1
    have e1 : 2 ^ depT a ≤ 2 ^ (max (depT a) (depT b)) := Nat.pow_le_pow_right (by decide) (by omega)
    have e2 : 2 ^ depT b ≤ 2 ^ (max (depT a) (depT b)) := Nat.pow_le_pow_right (by decide) (by omega)
    simp only [szT, depT, Nat.pow_succ]
    omega
/-- a def that is not called here -/
def spNo : Sp := fun _ _ _ _ => False
section
variable {P : Program} {w : World} {K : PySem.W.Frag} {mg : Str → Option Value} {base : Heap}
theorem ok_no {CX : CXT} {f : Addr} {fd : FuncData} {ps : List Str} : FnOk P w K mg base CX 1 f fd ps spNo := ⟨fun _ _ _ _ h => h.elim, fun _ _ _ _ _ _ _ _ _ _ _ _ _ h => h.elim⟩
def sp_is_int : Sp := fun vs H Q _ => ∃ z : Int, vs = [.int z] ∧ -2147483648 ≤ z ∧ z ≤ 2147483647 ∧ ∀ H', Same H H' → Q (.bl true) H'
theorem ok_is_int (T : Tx K mg) : FnOk P w K mg base CX0 2 T.f_is_int T.fd_is_int ["value"] sp_is_int := by
  have G_is_integer := ok_is_integer (P := P) (w := w) (base := base) T
  have b_is_integer := T.d_is_integer.F.binds (ps := ["value"]) fun _ _ _ _ _ _ us hl => match us, hl with | [_], _ => rfl
  refine T.d_is_int.F.ok sc_is_int (fun vs H Q E h => ?_) (fun cdv A outer s H vs Q E hr h => ?_)
  · obtain ⟨z, rfl, _⟩ := h
    rfl
  · obtain ⟨z, rfl, h1, h2, k⟩ := h
    have hu := hu_of hr
    have hu64 := hr.units
    refine ⟨_, (pss_one (ps_ret (pe_and (pe_call G_is_integer (hr.mono (by first | decide | omega)) rfl T.d_is_integer.g T.d_is_integer.F.kp b_is_integer .nil pass0 (pa_cons (pv 0) pa_nil)) (pe_one (pe_chain op_le op_le (pe_const T.c_LEAST_INT (by rfl)) (pv 0) (pe_const T.c_MOST_INT (by rfl))))))), ?_⟩
    tm_at "rd"
    refine ⟨AT, _, .int z, rfl, .int z, by simp [sz], fun H1 s1 => ?_⟩
    refine ⟨_, rfl, ?_⟩
    rw [show integerD (.int z) = true from rfl]
    tm_at "rd"
    refine bd_t h1 ?_
    tm_at "rd"
    rw [decide_eq_true h2]
    exact k _ s1
def sp_is_number : Sp := fun vs H Q _ => ∃ z : Int, vs = [.int z] ∧ 0 ≤ z ∧ z < 1000000000000 ∧ ∀ H', Same H H' → Q (.bl true) H'
theorem ok_is_number (T : Tx K mg) (D : Td K mg w) : FnOk P w K mg base CX0 3 T.f_is_number T.fd_is_number ["value"] sp_is_number := by
  have G_is_count := ok_is_count (P := P) (w := w) (base := base) T
  have b_is_count := T.d_is_count.F.binds (ps := ["value"]) fun _ _ _ _ _ _ us hl => match us, hl with | [_], _ => rfl
  refine T.d_is_number.F.ok sc_is_number (fun vs H Q E h => ?_) (fun cdv A outer s H vs Q E hr h => ?_)
  · obtain ⟨z, rfl, _⟩ := h
    rfl
  · obtain ⟨z, rfl, h1, h2, k⟩ := h
    have hu := hu_of hr
    have hu64 := hr.units
    refine ⟨_, (pss_one (ps_ret (pe_and (pe_call G_is_count (hr.mono (by first | decide | omega)) rfl T.d_is_count.g T.d_is_count.F.kp b_is_count .nil pass0 (pa_cons (pv 0) pa_nil)) (pe_one (pe_cmpR op_lt (pv 0) (pe_const D.c_MOST_COUNT (by rfl)) (nomark _)))))), ?_⟩
    tm_at "rd"
    refine ⟨AT, _, .int z, rfl, .int z, by simp [sz], fun H1 s1 => ?_⟩
    refine ⟨_, rfl, ?_⟩
    rw [show countD (.int z) = true by simp [countD, h1]]
    tm_at "rd"
    rw [decide_eq_true h2]
    exact k _ s1
def sp_node (K : PySem.W.Frag) : Sp := fun vs H Q _ => ∃ (v : V) (t : Tl), vs = [v] ∧ Tv K H v t ∧ OkT t ∧ ∀ H', Same H H' → Q (.bl true) H'
theorem ok_is_node (T : Tx K mg) (D : Td K mg w) : FnOk P w K mg base CX0 3 T.f_is_node T.fd_is_node ["value"] (sp_node K) := by
  have G_is_int := ok_is_int (P := P) (w := w) (base := base) T
  have G_is_name : FnOk P w K mg base CX0 1 T.f_is_name T.fd_is_name ["value"] spNo := ok_no
  have G_are_two_names : FnOk P w K mg base CX0 1 T.f_are_two_names T.fd_are_two_names ["one", "other"] spNo := ok_no
  have G_is_sign : FnOk P w K mg base CX0 1 T.f_is_sign T.fd_is_sign ["value"] spNo := ok_no
  have G_is_ask_name : FnOk P w K mg base CX0 1 T.f_is_ask_name T.fd_is_ask_name ["value"] spNo := ok_no
  have G_are_clauses : FnOk P w K mg base CX0 1 T.f_are_clauses T.fd_are_clauses ["value"] spNo := ok_no
  have b_is_int := T.d_is_int.F.binds (ps := ["value"]) fun _ _ _ _ _ _ us hl => match us, hl with | [_], _ => rfl
  have b_is_name := T.d_is_name.F.binds (ps := ["value"]) fun _ _ _ _ _ _ us hl => match us, hl with | [_], _ => rfl
  have b_are_two_names := T.d_are_two_names.F.binds (ps := ["one", "other"]) fun _ _ _ _ _ _ us hl => match us, hl with | [_, _], _ => rfl
  have b_is_sign := T.d_is_sign.F.binds (ps := ["value"]) fun _ _ _ _ _ _ us hl => match us, hl with | [_], _ => rfl
  have b_is_ask_name := T.d_is_ask_name.F.binds (ps := ["value"]) fun _ _ _ _ _ _ us hl => match us, hl with | [_], _ => rfl
  have b_are_clauses := T.d_are_clauses.F.binds (ps := ["value"]) fun _ _ _ _ _ _ us hl => match us, hl with | [_], _ => rfl
  refine T.d_is_node.F.ok sc_is_node (fun vs H Q E h => ?_) (fun cdv A outer s H vs Q E hr h => ?_)
  · obtain ⟨v, t, rfl, _⟩ := h
    rfl
  · obtain ⟨v, t, rfl, hv, ok, k⟩ := h
    have hu := hu_of hr
    have hu64 := hr.units
    refine ⟨_, (pss_cons (ps_if (PW.pt (pw_or (pt_not (pt_val (pe_callB (caIsB (K := K) rfl) (by rfl) T.n_isinstance (by decide +kernel) (pa_cons (pv 0) (pa_cons (pe_bltn (v := .ty "tuple") (u := .type "tuple") (by rfl) T.n_tuple (by decide +kernel) rfl) pa_nil))))) (pw_or (pt_cmpR (opEqB (K := K) rfl hu64) (pv 0) (pe_tup pa_nil) (nomark _)) (pw_or1 (pt_not (pt_val (pe_callB (caIsB (K := K) rfl) (by rfl) T.n_isinstance (by decide +kernel) (pa_cons (pe_ix (ixAny (K := K) rfl) (pv 0) pe_int (fun _ _ => rfl)) (pa_cons (pe_bltn (v := .ty "str") (u := .type "str") (by rfl) T.n_str (by decide +kernel) rfl) pa_nil))))))))) (pss_one (ps_ret pe_bl)) pss_nil)
      (pss_cons (ps_set (i := 1) sc_is_node.nd rfl (Or.inl rfl) (pe_ix (ixAny (K := K) rfl) (pv 0) pe_int (fun _ _ => rfl)))
      (pss_cons (ps_if (PW.pt (pw_or (pt_cmpR (opNiKD D.k_LONG rfl rfl) (pv 1) (pe_const D.c_LONG (by rfl)) (by rfl)) (pw_or1 (pt_cmpR (opNeB (K := K) rfl hu64) (pe_callB (caLenB (K := K) rfl) (by rfl) T.n_len (by decide +kernel) (pa_cons (pv 0) pa_nil)) (pe_ix (ixKD D.k_LONG rfl rfl) (pe_const D.c_LONG (by rfl)) (pv 1) (fun _ _ => rfl)) (nomark _))))) (pss_one (ps_ret pe_bl)) pss_nil)
      (pss_cons (ps_if (pt_cmpR (opEqB (K := K) rfl hu64) (pv 1) (pe_const T.c_INT (by rfl)) (nomark _)) (pss_one (ps_ret (pe_call G_is_int (hr.mono (by first | decide | omega)) rfl T.d_is_int.g T.d_is_int.F.kp b_is_int .nil pass0 (pa_cons (pe_ix (ixAny (K := K) rfl) (pv 0) pe_int (fun _ _ => rfl)) pa_nil)))) pss_nil)
      (pss_cons (ps_if (pt_cmpR (opEqB (K := K) rfl hu64) (pv 1) (pe_const T.c_BOOL (by rfl)) (nomark _)) (pss_one (ps_ret (pe_callB (caIsB (K := K) rfl) (by rfl) T.n_isinstance (by decide +kernel) (pa_cons (pe_ix (ixAny (K := K) rfl) (pv 0) pe_int (fun _ _ => rfl)) (pa_cons (pe_bltn (v := .ty "bool") (u := .type "bool") (by rfl) T.n_bool (by decide +kernel) rfl) pa_nil))))) pss_nil)
      (pss_cons (ps_if (pt_cmpR (opInB (K := K) rfl hu64) (pv 1) (pe_tup (pa_cons (pe_const T.c_VAR (by rfl)) (pa_cons (pe_const T.c_FN (by rfl)) (pa_cons (pe_const T.c_LET (by rfl)) pa_nil)))) (by rfl)) (pss_one (ps_ret (pe_call G_is_name (hr.mono (by first | decide | omega)) rfl T.d_is_name.g T.d_is_name.F.kp b_is_name .nil pass0 (pa_cons (pe_ix (ixAny (K := K) rfl) (pv 0) pe_int (fun _ _ => rfl)) pa_nil)))) pss_nil)
      (pss_cons (ps_if (pt_cmpR (opEqB (K := K) rfl hu64) (pv 1) (pe_const T.c_REC (by rfl)) (nomark _)) (pss_one (ps_ret (pe_call G_are_two_names (hr.mono (by first | decide | omega)) rfl T.d_are_two_names.g T.d_are_two_names.F.kp b_are_two_names .nil pass0 (pa_cons (pe_ix (ixAny (K := K) rfl) (pv 0) pe_int (fun _ _ => rfl)) (pa_cons (pe_ix (ixAny (K := K) rfl) (pv 0) pe_int (fun _ _ => rfl)) pa_nil))))) pss_nil)
      (pss_cons (ps_if (pt_cmpR (opEqB (K := K) rfl hu64) (pv 1) (pe_const T.c_OP (by rfl)) (nomark _)) (pss_one (ps_ret (pe_call G_is_sign (hr.mono (by first | decide | omega)) rfl T.d_is_sign.g T.d_is_sign.F.kp b_is_sign .nil pass0 (pa_cons (pe_ix (ixAny (K := K) rfl) (pv 0) pe_int (fun _ _ => rfl)) pa_nil)))) pss_nil)
      (pss_cons (ps_if (pt_cmpR (opEqB (K := K) rfl hu64) (pv 1) (pe_const T.c_MATCH (by rfl)) (nomark _)) (pss_one (ps_ret (pe_call G_are_two_names (hr.mono (by first | decide | omega)) rfl T.d_are_two_names.g T.d_are_two_names.F.kp b_are_two_names .nil pass0 (pa_cons (pe_ix (ixAny (K := K) rfl) (pv 0) pe_int (fun _ _ => rfl)) (pa_cons (pe_ix (ixAny (K := K) rfl) (pv 0) pe_int (fun _ _ => rfl)) pa_nil))))) pss_nil)
      (pss_cons (ps_if (pt_cmpR (opEqB (K := K) rfl hu64) (pv 1) (pe_const T.c_ASK (by rfl)) (nomark _)) (pss_one (ps_ret (pe_call G_is_ask_name (hr.mono (by first | decide | omega)) rfl T.d_is_ask_name.g T.d_is_ask_name.F.kp b_is_ask_name .nil pass0 (pa_cons (pe_ix (ixAny (K := K) rfl) (pv 0) pe_int (fun _ _ => rfl)) pa_nil)))) pss_nil)
      (pss_one (ps_ret (pe_or (pe_cmpR (opNeB (K := K) rfl hu64) (pv 1) (pe_const T.c_HANDLE (by rfl)) (nomark _)) (pe_one (pe_and (pe_call G_is_name (hr.mono (by first | decide | omega)) rfl T.d_is_name.g T.d_is_name.F.kp b_is_name .nil pass0 (pa_cons (pe_ix (ixAny (K := K) rfl) (pv 0) pe_int (fun _ _ => rfl)) pa_nil)) (pe_one (pe_call G_are_clauses (hr.mono (by first | decide | omega)) rfl T.d_are_clauses.g T.d_are_clauses.F.kp b_are_clauses .nil pass0 (pa_cons (pe_ix (ixAny (K := K) rfl) (pv 0) pe_int (fun _ _ => rfl)) pa_nil)))))))))))))))))), ?_⟩
    cases t with
    | int z =>
      change Dp K H v (.tuple [.str (tx (cs "int")), .int z]) at hv
      obtain ⟨p, x, y, rfl, ht, hx, hy⟩ := dp_tup2 hv
      obtain rfl := dp_str hx
      obtain rfl := dp_int hy
      tm_at "rd"
      intro q1 hq1
      have s1 := same_new (o := .tup []) hq1
      have ht1 := Same.tup s1 ht
      refine b_eqE_tup ht1 upd_same ⟨_, rfl, ?_⟩
      generalize upd H q1 (.tup []) = H1 at s1 ht1
      refine b_f ?_
      have hx1 : Dp K H1 (.str (tx (cs "int"))) (.str (tx (cs "int"))) := .str _
      tm_at "rd"
      refine q_ix_tup ht1 (v := .str (tx (cs "int"))) rfl ?_
      tm_at "rd"
      refine q_ix_tup ht1 (v := .str (tx (cs "int"))) rfl ?_
      tm_at "rd"
      refine ⟨_, rfl, rfl, .inl ⟨_, D.LONG_int, ?_⟩⟩
      tm_at "rd"
      refine q_lenB_tup ht1 ?_
      tm_at "rd"
      refine ⟨_, _, rfl, rfl, D.LONG_int, ?_⟩
      tm_at "rd"
      refine bnd_f (by rfl) ?_
      tm_at "rdw"
      refine q_ix_tup ht1 (v := .int z) rfl ?_
      tm_at "rd"
      exact ⟨z, rfl, ok.1, ok.2, fun H2 s2 => k _ (s1.trans s2)⟩
    | tt =>
      change Dp K H v (.tuple [.str (tx (cs "bool")), .bool true]) at hv
      obtain ⟨p, x, y, rfl, ht, hx, hy⟩ := dp_tup2 hv
      obtain rfl := dp_str hx
      obtain rfl := dp_bl hy
      tm_at "rd"
      intro q1 hq1
      have s1 := same_new (o := .tup []) hq1
      have ht1 := Same.tup s1 ht
      refine b_eqE_tup ht1 upd_same ⟨_, rfl, ?_⟩
      generalize upd H q1 (.tup []) = H1 at s1 ht1
      refine b_f ?_
      have hx1 : Dp K H1 (.str (tx (cs "bool"))) (.str (tx (cs "bool"))) := .str _
      tm_at "rd"
      refine q_ix_tup ht1 (v := .str (tx (cs "bool"))) rfl ?_
      tm_at "rd"
      refine q_ix_tup ht1 (v := .str (tx (cs "bool"))) rfl ?_
      tm_at "rd"
      refine ⟨_, rfl, rfl, .inl ⟨_, D.LONG_bool, ?_⟩⟩
      tm_at "rd"
      refine q_lenB_tup ht1 ?_
      tm_at "rd"
      refine ⟨_, _, rfl, rfl, D.LONG_bool, ?_⟩
      tm_at "rd"
      refine bnd_f (by rfl) ?_
      tm_at "rdw"
      have hy1 : Dp K H1 (.bl true) (.bool true) := .bl true
      refine q_ix_tup ht1 (v := .bl true) rfl ?_
      tm_at "rd"
      exact k _ s1
    | uu =>
      change Dp K H v (.tuple [.str (tx (cs "unit"))]) at hv
      obtain ⟨p, x, rfl, ht, hx⟩ := dp_tup1 hv
      obtain rfl := dp_str hx
      tm_at "rd"
      intro q1 hq1
      have s1 := same_new (o := .tup []) hq1
      have ht1 := Same.tup s1 ht
      refine b_eqE_tup ht1 upd_same ⟨_, rfl, ?_⟩
      generalize upd H q1 (.tup []) = H1 at s1 ht1
      refine b_f ?_
      have hx1 : Dp K H1 (.str (tx (cs "unit"))) (.str (tx (cs "unit"))) := .str _
      tm_at "rd"
      refine q_ix_tup ht1 (v := .str (tx (cs "unit"))) rfl ?_
      tm_at "rd"
      refine q_ix_tup ht1 (v := .str (tx (cs "unit"))) rfl ?_
      tm_at "rd"
      refine ⟨_, rfl, rfl, .inl ⟨_, D.LONG_unit, ?_⟩⟩
      tm_at "rd"
      refine q_lenB_tup ht1 ?_
      tm_at "rd"
      refine ⟨_, _, rfl, rfl, D.LONG_unit, ?_⟩
      tm_at "rd"
      refine bnd_f (by rfl) ?_
      tm_at "rdw"
      intro q2 hq2
      have s2 := s1.trans (same_new (o := .tup [.str (tx (cs "var")), .str (tx (cs "fn")), .str (tx (cs "let"))]) hq2)
      refine b_in_txs (ys := [cs "var", cs "fn", cs "let"]) (.inr (SqT.of upd_same)) ?_
      rw [show ([cs "var", cs "fn", cs "let"] : List (List Nat)).contains (cs "unit") = false from by decide]
      tm_at "rdw"
      exact k _ s2
    | nn =>
      change Dp K H v (.tuple [.str (tx (cs "nil"))]) at hv
      obtain ⟨p, x, rfl, ht, hx⟩ := dp_tup1 hv
      obtain rfl := dp_str hx
      tm_at "rd"
      intro q1 hq1
      have s1 := same_new (o := .tup []) hq1
      have ht1 := Same.tup s1 ht
      refine b_eqE_tup ht1 upd_same ⟨_, rfl, ?_⟩
      generalize upd H q1 (.tup []) = H1 at s1 ht1
      refine b_f ?_
      have hx1 : Dp K H1 (.str (tx (cs "nil"))) (.str (tx (cs "nil"))) := .str _
      tm_at "rd"
      refine q_ix_tup ht1 (v := .str (tx (cs "nil"))) rfl ?_
      tm_at "rd"
      refine q_ix_tup ht1 (v := .str (tx (cs "nil"))) rfl ?_
      tm_at "rd"
      refine ⟨_, rfl, rfl, .inl ⟨_, D.LONG_nil, ?_⟩⟩
      tm_at "rd"
      refine q_lenB_tup ht1 ?_
      tm_at "rd"
      refine ⟨_, _, rfl, rfl, D.LONG_nil, ?_⟩
      tm_at "rd"
      refine bnd_f (by rfl) ?_
      tm_at "rdw"
      intro q2 hq2
      have s2 := s1.trans (same_new (o := .tup [.str (tx (cs "var")), .str (tx (cs "fn")), .str (tx (cs "let"))]) hq2)
      refine b_in_txs (ys := [cs "var", cs "fn", cs "let"]) (.inr (SqT.of upd_same)) ?_
      rw [show ([cs "var", cs "fn", cs "let"] : List (List Nat)).contains (cs "nil") = false from by decide]
      tm_at "rdw"
      exact k _ s2
    | pr a b =>
      change Dp K H v (.tuple [.str (tx (cs "pair")), tlD a, tlD b]) at hv
      obtain ⟨p, x, y, y', rfl, ht, hx, hy, hy'⟩ := dp_tup3 hv
      obtain rfl := dp_str hx
      tm_at "rd"
      intro q1 hq1
      have s1 := same_new (o := .tup []) hq1
      have ht1 := Same.tup s1 ht
      refine b_eqE_tup ht1 upd_same ⟨_, rfl, ?_⟩
      generalize upd H q1 (.tup []) = H1 at s1 ht1
      refine b_f ?_
      have hx1 : Dp K H1 (.str (tx (cs "pair"))) (.str (tx (cs "pair"))) := .str _
      tm_at "rd"
      refine q_ix_tup ht1 (v := .str (tx (cs "pair"))) rfl ?_
      tm_at "rd"
      refine q_ix_tup ht1 (v := .str (tx (cs "pair"))) rfl ?_
      tm_at "rd"
      refine ⟨_, rfl, rfl, .inl ⟨_, D.LONG_pair, ?_⟩⟩
      tm_at "rd"
      refine q_lenB_tup ht1 ?_
      tm_at "rd"
      refine ⟨_, _, rfl, rfl, D.LONG_pair, ?_⟩
      tm_at "rd"
      refine bnd_f (by rfl) ?_
      tm_at "rdw"
      intro q2 hq2
      have s2 := s1.trans (same_new (o := .tup [.str (tx (cs "var")), .str (tx (cs "fn")), .str (tx (cs "let"))]) hq2)
      refine b_in_txs (ys := [cs "var", cs "fn", cs "let"]) (.inr (SqT.of upd_same)) ?_
      rw [show ([cs "var", cs "fn", cs "let"] : List (List Nat)).contains (cs "pair") = false from by decide]
      tm_at "rdw"
      exact k _ s2
    | cn a b =>
      change Dp K H v (.tuple [.str (tx (cs "cons")), tlD a, tlD b]) at hv
      obtain ⟨p, x, y, y', rfl, ht, hx, hy, hy'⟩ := dp_tup3 hv
      obtain rfl := dp_str hx
      tm_at "rd"
      intro q1 hq1
      have s1 := same_new (o := .tup []) hq1
      have ht1 := Same.tup s1 ht
      refine b_eqE_tup ht1 upd_same ⟨_, rfl, ?_⟩
      generalize upd H q1 (.tup []) = H1 at s1 ht1
      refine b_f ?_
      have hx1 : Dp K H1 (.str (tx (cs "cons"))) (.str (tx (cs "cons"))) := .str _
      tm_at "rd"
      refine q_ix_tup ht1 (v := .str (tx (cs "cons"))) rfl ?_
      tm_at "rd"
      refine q_ix_tup ht1 (v := .str (tx (cs "cons"))) rfl ?_
      tm_at "rd"
      refine ⟨_, rfl, rfl, .inl ⟨_, D.LONG_cons, ?_⟩⟩
      tm_at "rd"
      refine q_lenB_tup ht1 ?_
      tm_at "rd"
      refine ⟨_, _, rfl, rfl, D.LONG_cons, ?_⟩
      tm_at "rd"
      refine bnd_f (by rfl) ?_
      tm_at "rdw"
      intro q2 hq2
      have s2 := s1.trans (same_new (o := .tup [.str (tx (cs "var")), .str (tx (cs "fn")), .str (tx (cs "let"))]) hq2)
      refine b_in_txs (ys := [cs "var", cs "fn", cs "let"]) (.inr (SqT.of upd_same)) ?_
      rw [show ([cs "var", cs "fn", cs "let"] : List (List Nat)).contains (cs "cons") = false from by decide]
      tm_at "rdw"
      exact k _ s2
end
end K68

set_option maxHeartbeats 4000000
/-! W68c: the children; what is within; data and tellings. -/
namespace K68
open PySem PySem.Spec PyProof.Rows L2 TL Ak Kd Jn
local macro_rules | `(tactic| tm_at "rd1") => `(tactic| with_reducible first
  | refine r_seq ?_ | refine r_ifS ?_ | refine r_ret ?_ | refine r_asg ?_ | refine r_next ?_ | refine r_drop ?_ | refine r_par ?_ | refine r_brk ?_ | refine r_cont ?_
  | refine r_op ?_ | refine r_c ?_ | refine r_cb ?_ | refine r_cons ?_ | refine r_nil ?_ | refine r_un ?_ | refine r_tB ?_ | refine r_test ?_ | refine r_not ?_ | refine r_and ?_ | refine r_or ?_ | refine r_andV ?_ | refine r_orV ?_ | refine r_notV ?_ | refine r_if ?_ | refine r_chain ?_
  | refine r_tup ?_ | refine r_lst ?_ | refine r_lstN ?_ | refine r_sl ?_ | refine r_part ?_ | refine r_nopart ?_ | refine r_call ?_ | refine r_callK ?_ | refine r_bm ?_ | refine r_bm0 ?_ | refine r_m1 ?_ | refine r_m0 ?_ | refine r_isN ?_ | refine r_notN ?_
  | refine r_gcons ?_ | refine r_gnil ?_ | refine r_gsub ?_ | refine r_name ?_ | refine r_ilist ?_ | refine r_itup ?_ | refine r_istr ?_ | refine r_irng1 ?_ | refine r_ienum ?_ | refine r_mko ?_ | refine r_yes ?_ | refine r_lc ?_ | refine r_for ?_ | refine turn_i ?_
  | refine r_dput ?_ | refine r_dget ?_ | refine r_izipA ?_ | refine r_ienumT ?_ | refine r_back ?_ | refine r_dsetd ?_ | refine r_dgetN ?_ | refine r_dnotinN ?_ | refine r_isTr ?_ | refine r_lockAsg ?_ | refine r_bl ?_ | refine r_int ?_ | refine r_two ?_ | refine r_str ?_ | refine r_two1 ?_
  | refine b_t ?_ | refine b_f ?_ | refine b_nt ?_ | refine b_nf ?_ | refine q_u ?_ | refine q_i0 ?_ | refine q_ipI ?_ | refine b_add_int ?_ | refine b_eq_int ?_ | refine b_ne_int ?_ | refine b_eq_tx ?_ | refine b_ne_tx ?_ | refine b_in_sg ?_ | refine q_ni_sg ?_)
local macro_rules | `(tactic| tm_at "rd2") => `(tactic| first
  | tm_at "rd1" | refine r_var rfl ?_ | refine r_aug rfl ?_ 
  | refine And.intro (small_n (by simp)) ?_ | tm_at "rdl" | tm_at "rdk")
local macro_rules | `(tactic| tm_at "rdk") => `(tactic| with_reducible first | refine b_isStrV ?_ | refine b_isBlV ?_ | refine b_isIntV ?_ | refine b_isIntB ?_ | refine b_isTupS (by assumption) ?_ | refine b_isTup (by assumption) ?_ | refine b_isInt (by assumption) ?_ | refine b_isBl (by assumption) ?_ | refine b_isStr (by assumption) ?_ | refine b_isLst (by assumption) ?_)
local macro_rules | `(tactic| tm_at "rdl") => `(tactic| first | (with_reducible refine q_len_tx (by assumption) ?_) | (with_reducible refine q_len_tx (by omega) ?_) | (with_reducible refine q_lenB_tx (by assumption) ?_) | (with_reducible refine q_lenB_tx (by omega) ?_))
local macro_rules | `(tactic| tm_at "rd") => `(tactic| repeat tm_at "rd2")
local macro_rules | `(tactic| tm_at "rdw") => `(tactic| repeat (first | tm_at "rd2" | with_reducible refine bd_t rfl ?_ | with_reducible refine bd_f (by decide) ?_ | with_reducible refine bnd_f rfl ?_ | with_reducible refine bnd_t (by decide) ?_))

def kids : Tl → List Tl
  | .pr a b => [a, b]
  | .cn a b => [a, b]
  | _ => []
theorem tls_only : ∀ ts : List Tl, tupOnlyAll (ts.map tlD) = true
  | [] => rfl
  | t :: ts => by simp only [List.map_cons, tupOnlyAll, tlD_only, tls_only ts]; rfl
section
variable {P : Program} {w : World} {K : PySem.W.Frag} {mg : Str → Option Value} {base : Heap}
def sp_children (K : PySem.W.Frag) : Sp := fun vs H Q _ => ∃ (v : V) (t : Tl), vs = [v] ∧ Tv K H v t ∧ ∀ H' c cv, Same H H' → H' c = some (.tup cv) → DpAll K H' cv ((kids t).map tlD) → Q (.ref c) H'
theorem ok_children_of (T : Tx K mg) (D : Td K mg w) : FnOk P w K mg base CX0 1 T.f_children_of T.fd_children_of ["term"] (sp_children K) := by
  refine T.d_children_of.F.ok sc_children_of (fun vs H Q E h => ?_) (fun cdv A outer s H vs Q E hr h => ?_)
  · obtain ⟨v, t, rfl, _⟩ := h
    rfl
  · obtain ⟨v, t, rfl, hv, k⟩ := h
    have hu := hu_of hr
    have hu64 := hr.units
    refine ⟨_, (pss_cons (ps_if (pt_cmpR (opEqB (K := K) rfl hu64) (pe_ix (ixAny (K := K) rfl) (pv 0) pe_int (fun _ _ => rfl)) (pe_const T.c_HANDLE (by rfl)) (nomark _)) (pss_one (ps_ret (pe_op (opAddB (K := K) rfl) (pe_tup (pa_cons (pe_ix (ixAny (K := K) rfl) (pv 0) pe_int (fun _ _ => rfl)) (pa_cons (pe_ix (ixAny (K := K) rfl) (pv 0) pe_int (fun _ _ => rfl)) pa_nil))) (pe_callTy (caTuple (K := K) rfl) (by rfl) T.n_tuple (by decide +kernel) (pa_cons (pe_lc (own := [("row", 2)]) (g := gName 2) rfl sc_children_of.nd (pi_tup (pe_ix (ixAny (K := K) rfl) (pv 0) pe_int (fun _ _ => rfl))) (blkOk_by (own := [("row", 2)]) (N := nm_children_of) (sc := defScope s_children_of) (by decide +kernel)) (fun _ _ _ _ _ => pg_name (i := 2) sc_children_of.nd rfl (Or.inl rfl)) (fun _ _ _ _ _ => pts_nil) (fun _ _ _ _ _ => (pe_ix (ixAny (K := K) rfl) (pv 2) pe_int (fun _ _ => rfl)))) pa_nil))))) pss_nil)
      (pss_one (ps_ret (pe_callTy (caTuple (K := K) rfl) (by rfl) T.n_tuple (by decide +kernel) (pa_cons (pe_lc (own := [("at", 1)]) (g := gName 1) rfl sc_children_of.nd (pi_tup (pe_ix (ixKD D.k_CHILDREN rfl rfl) (pe_const D.c_CHILDREN (by rfl)) (pe_ix (ixAny (K := K) rfl) (pv 0) pe_int (fun _ _ => rfl)) (fun _ _ => rfl))) (blkOk_by (own := [("at", 1)]) (N := nm_children_of) (sc := defScope s_children_of) (by decide +kernel)) (fun _ _ _ _ _ => pg_name (i := 1) sc_children_of.nd rfl (Or.inl rfl)) (fun _ _ _ _ _ => pts_nil) (fun _ _ _ _ _ => (pe_ix (ixAny (K := K) rfl) (pv 0) (pv 1) (fun _ _ => rfl)))) pa_nil))))), ?_⟩
    cases t with
    | int z =>
      change Dp K H v (.tuple [.str (tx (cs "int")), .int z]) at hv
      obtain ⟨p, x, y, rfl, ht, hx, hy⟩ := dp_tup2 hv
      obtain rfl := dp_str hx
      obtain rfl := dp_int hy
      tm_at "rd"
      refine q_ix_tup ht (v := .str (tx (cs "int"))) rfl ?_
      tm_at "rdw"
      refine q_ix_tup ht (v := .str (tx (cs "int"))) rfl ?_
      tm_at "rd"
      refine ⟨_, _, rfl, rfl, D.CHILDREN_int, ?_⟩
      tm_at "rd"
      refine ⟨_, rfl, ⟨_, D.t_CHILDREN_int H⟩, fun l hl => ?_⟩
      refine lc_dp (K := K) (walk_tup (K := K) (a := D.a_CHILDREN_int) (xs := [])) (fun j => PyData.none) (fun _ => rfl) (by decide) (fun H2 s2 => D.t_CHILDREN_int H2) (fun j x H2 H3 _ s2 y => by rw [y.1]; exact Same.refl _) (fun j x H2 H3 hj s2 y Q3 R3 q => ?_) hl (fun H2 acc s2 h2 hA => ?_)
      · exact absurd hj (by simp)
      · tm_at "rd"
        refine ⟨l, acc, rfl, .inl ⟨SqL.of h2, fun c hc => ?_⟩⟩
        have s3 := same_new (o := .tup acc) hc
        exact k _ c acc (s2.trans s3) upd_same ((hA).same s3)
    | tt =>
      change Dp K H v (.tuple [.str (tx (cs "bool")), .bool true]) at hv
      obtain ⟨p, x, y, rfl, ht, hx, hy⟩ := dp_tup2 hv
      obtain rfl := dp_str hx
      obtain rfl := dp_bl hy
      tm_at "rd"
      refine q_ix_tup ht (v := .str (tx (cs "bool"))) rfl ?_
      tm_at "rdw"
      refine q_ix_tup ht (v := .str (tx (cs "bool"))) rfl ?_
      tm_at "rd"
      refine ⟨_, _, rfl, rfl, D.CHILDREN_bool, ?_⟩
      tm_at "rd"
      refine ⟨_, rfl, ⟨_, D.t_CHILDREN_bool H⟩, fun l hl => ?_⟩
      refine lc_dp (K := K) (walk_tup (K := K) (a := D.a_CHILDREN_bool) (xs := [])) (fun j => PyData.none) (fun _ => rfl) (by decide) (fun H2 s2 => D.t_CHILDREN_bool H2) (fun j x H2 H3 _ s2 y => by rw [y.1]; exact Same.refl _) (fun j x H2 H3 hj s2 y Q3 R3 q => ?_) hl (fun H2 acc s2 h2 hA => ?_)
      · exact absurd hj (by simp)
      · tm_at "rd"
        refine ⟨l, acc, rfl, .inl ⟨SqL.of h2, fun c hc => ?_⟩⟩
        have s3 := same_new (o := .tup acc) hc
        exact k _ c acc (s2.trans s3) upd_same ((hA).same s3)
    | uu =>
      change Dp K H v (.tuple [.str (tx (cs "unit"))]) at hv
      obtain ⟨p, x, rfl, ht, hx⟩ := dp_tup1 hv
      obtain rfl := dp_str hx
      tm_at "rd"
      refine q_ix_tup ht (v := .str (tx (cs "unit"))) rfl ?_
      tm_at "rdw"
      refine q_ix_tup ht (v := .str (tx (cs "unit"))) rfl ?_
      tm_at "rd"
      refine ⟨_, _, rfl, rfl, D.CHILDREN_unit, ?_⟩
      tm_at "rd"
      refine ⟨_, rfl, ⟨_, D.t_CHILDREN_unit H⟩, fun l hl => ?_⟩
      refine lc_dp (K := K) (walk_tup (K := K) (a := D.a_CHILDREN_unit) (xs := [])) (fun j => PyData.none) (fun _ => rfl) (by decide) (fun H2 s2 => D.t_CHILDREN_unit H2) (fun j x H2 H3 _ s2 y => by rw [y.1]; exact Same.refl _) (fun j x H2 H3 hj s2 y Q3 R3 q => ?_) hl (fun H2 acc s2 h2 hA => ?_)
      · exact absurd hj (by simp)
      · tm_at "rd"
        refine ⟨l, acc, rfl, .inl ⟨SqL.of h2, fun c hc => ?_⟩⟩
        have s3 := same_new (o := .tup acc) hc
        exact k _ c acc (s2.trans s3) upd_same ((hA).same s3)
    | nn =>
      change Dp K H v (.tuple [.str (tx (cs "nil"))]) at hv
      obtain ⟨p, x, rfl, ht, hx⟩ := dp_tup1 hv
      obtain rfl := dp_str hx
      tm_at "rd"
      refine q_ix_tup ht (v := .str (tx (cs "nil"))) rfl ?_
      tm_at "rdw"
      refine q_ix_tup ht (v := .str (tx (cs "nil"))) rfl ?_
      tm_at "rd"
      refine ⟨_, _, rfl, rfl, D.CHILDREN_nil, ?_⟩
      tm_at "rd"
      refine ⟨_, rfl, ⟨_, D.t_CHILDREN_nil H⟩, fun l hl => ?_⟩
      refine lc_dp (K := K) (walk_tup (K := K) (a := D.a_CHILDREN_nil) (xs := [])) (fun j => PyData.none) (fun _ => rfl) (by decide) (fun H2 s2 => D.t_CHILDREN_nil H2) (fun j x H2 H3 _ s2 y => by rw [y.1]; exact Same.refl _) (fun j x H2 H3 hj s2 y Q3 R3 q => ?_) hl (fun H2 acc s2 h2 hA => ?_)
      · exact absurd hj (by simp)
      · tm_at "rd"
        refine ⟨l, acc, rfl, .inl ⟨SqL.of h2, fun c hc => ?_⟩⟩
        have s3 := same_new (o := .tup acc) hc
        exact k _ c acc (s2.trans s3) upd_same ((hA).same s3)
    | pr a b =>
      change Dp K H v (.tuple [.str (tx (cs "pair")), tlD a, tlD b]) at hv
      obtain ⟨p, x, y, y', rfl, ht, hx, hy, hy'⟩ := dp_tup3 hv
      obtain rfl := dp_str hx
      tm_at "rd"
      refine q_ix_tup ht (v := .str (tx (cs "pair"))) rfl ?_
      tm_at "rdw"
      refine q_ix_tup ht (v := .str (tx (cs "pair"))) rfl ?_
      tm_at "rd"
      refine ⟨_, _, rfl, rfl, D.CHILDREN_pair, ?_⟩
      tm_at "rd"
      refine ⟨_, rfl, ⟨_, D.t_CHILDREN_pair H⟩, fun l hl => ?_⟩
      refine lc_dp (K := K) (walk_tup (K := K) (a := D.a_CHILDREN_pair) (xs := [.int 1, .int 2])) (fun j => ([tlD a, tlD b] : List PyData).getD j .none) (fun j => only_getD (tls_only [a, b]) j) (by decide) (fun H2 s2 => D.t_CHILDREN_pair H2) (fun j x H2 H3 _ s2 y => by rw [y.1]; exact Same.refl _) (fun j x H2 H3 hj s2 y Q3 R3 q => ?_) hl (fun H2 acc s2 h2 hA => ?_)
      · obtain ⟨rfl, hx2⟩ := y
        match j, hj, hx2 with
        | 0, _, e =>
          obtain rfl := Option.some.inj e
          tm_at "rd"
          refine ⟨rfl, ?_⟩
          tm_at "rd"
          exact q_ix_tup (Same.tup s2 ht) (v := y) rfl (q _ _ (Same.refl _) (hy.same s2))
        | 1, _, e =>
          obtain rfl := Option.some.inj e
          tm_at "rd"
          refine ⟨rfl, ?_⟩
          tm_at "rd"
          exact q_ix_tup (Same.tup s2 ht) (v := y') rfl (q _ _ (Same.refl _) (hy'.same s2))
      · tm_at "rd"
        refine ⟨l, acc, rfl, .inl ⟨SqL.of h2, fun c hc => ?_⟩⟩
        have s3 := same_new (o := .tup acc) hc
        exact k _ c acc (s2.trans s3) upd_same ((hA).same s3)
    | cn a b =>
      change Dp K H v (.tuple [.str (tx (cs "cons")), tlD a, tlD b]) at hv
      obtain ⟨p, x, y, y', rfl, ht, hx, hy, hy'⟩ := dp_tup3 hv
      obtain rfl := dp_str hx
      tm_at "rd"
      refine q_ix_tup ht (v := .str (tx (cs "cons"))) rfl ?_
      tm_at "rdw"
      refine q_ix_tup ht (v := .str (tx (cs "cons"))) rfl ?_
      tm_at "rd"
      refine ⟨_, _, rfl, rfl, D.CHILDREN_cons, ?_⟩
      tm_at "rd"
      refine ⟨_, rfl, ⟨_, D.t_CHILDREN_cons H⟩, fun l hl => ?_⟩
      refine lc_dp (K := K) (walk_tup (K := K) (a := D.a_CHILDREN_cons) (xs := [.int 1, .int 2])) (fun j => ([tlD a, tlD b] : List PyData).getD j .none) (fun j => only_getD (tls_only [a, b]) j) (by decide) (fun H2 s2 => D.t_CHILDREN_cons H2) (fun j x H2 H3 _ s2 y => by rw [y.1]; exact Same.refl _) (fun j x H2 H3 hj s2 y Q3 R3 q => ?_) hl (fun H2 acc s2 h2 hA => ?_)
      · obtain ⟨rfl, hx2⟩ := y
        match j, hj, hx2 with
        | 0, _, e =>
          obtain rfl := Option.some.inj e
          tm_at "rd"
          refine ⟨rfl, ?_⟩
          tm_at "rd"
          exact q_ix_tup (Same.tup s2 ht) (v := y) rfl (q _ _ (Same.refl _) (hy.same s2))
        | 1, _, e =>
          obtain rfl := Option.some.inj e
          tm_at "rd"
          refine ⟨rfl, ?_⟩
          tm_at "rd"
          exact q_ix_tup (Same.tup s2 ht) (v := y') rfl (q _ _ (Same.refl _) (hy'.same s2))
      · tm_at "rd"
        refine ⟨l, acc, rfl, .inl ⟨SqL.of h2, fun c hc => ?_⟩⟩
        have s3 := same_new (o := .tup acc) hc
        exact k _ c acc (s2.trans s3) upd_same ((hA).same s3)
/-- a node and its depth -/
def atD (x : Tl × Nat) : PyData := .tuple [tlD x.1, .int (x.2 : Nat)]
theorem at_only (x : Tl × Nat) : tupOnly (atD x) = true := by simp only [atD, tupOnly, tupOnlyAll, tlD_only]; rfl
theorem ats_only : ∀ ps : List (Tl × Nat), tupOnlyAll (ps.map atD) = true
  | [] => rfl
  | x :: ps => by simp only [List.map_cons, tupOnlyAll, at_only, ats_only ps]; rfl
def szL : List (Tl × Nat) → Nat
  | [] => 0
  | x :: ps => szT x.1 + szL ps
theorem szL_app : ∀ a b, szL (a ++ b) = szL a + szL b
  | [], b => by simp [szL]
  | x :: a, b => by simp only [List.cons_append, szL, szL_app a b]; omega
theorem szL_len : ∀ a, a.length ≤ szL a
  | [] => Nat.le_refl _
  | x :: a => by
    have := szL_len a
    have := szT_pos x.1
    simp only [List.length_cons, szL]
    omega
def deepKids (x : Tl × Nat) : List (Tl × Nat) := (kids x.1).map fun t => (t, x.2 + 1)
theorem szL_kids (x : Tl × Nat) : szL (deepKids x) + 1 = szT x.1 := by
  obtain ⟨t, n⟩ := x
  cases t <;> simp only [deepKids, kids, List.map_cons, List.map_nil, szL, szT] <;> omega
theorem kids_ok {t : Tl} (h : OkT t) : ∀ x ∈ kids t, OkT x ∧ depT x < depT t := by
  intro x hx
  cases t <;> simp only [kids, List.mem_cons, List.not_mem_nil, or_false] at hx
  · rcases hx with rfl | rfl
    · exact ⟨h.1, by simp only [depT]; omega⟩
    · exact ⟨h.2, by simp only [depT]; omega⟩
  · rcases hx with rfl | rfl
    · exact ⟨h.1, by simp only [depT]; omega⟩
    · exact ⟨h.2, by simp only [depT]; omega⟩
theorem deep_at {t : Tl} {n j : Nat} {d : PyData} (h : ((kids t).map tlD)[j]? = some d) : ∃ k ∈ kids t, d = tlD k ∧ ((deepKids (t, n)).map atD).getD j .none = atD (k, n + 1) := by
  rw [List.getElem?_map] at h
  cases e : (kids t)[j]? with
  | none => rw [e] at h; cases h
  | some k =>
    rw [e] at h
    refine ⟨k, List.mem_of_getElem? e, (Option.some.inj h).symm, ?_⟩
    simp only [deepKids, List.getD_eq_getElem?_getD, List.getElem?_map, e]
    rfl
theorem range_getD {α : Type} (L : List α) (x : α) {n : Nat} (h : n = L.length) : (List.range n).map (fun j => L.getD j x) = L := by
  subst h
  apply List.ext_getElem
  · simp
  · intro i h1 h2
    simp at h1
    simp [List.getD, h1]
theorem kids_len (t : Tl) : (kids t).length ≤ 2 := by cases t <;> simp [kids]
def sp_within (K : PySem.W.Frag) : Sp := fun vs H Q _ => ∃ (v : V) (t : Tl), vs = [v, .int 20000, .int 150] ∧ Tv K H v t ∧ OkT t ∧ depT t ≤ 10 ∧ ∀ H', Same H H' → Q (.bl true) H'
theorem ok_is_within (T : Tx K mg) (D : Td K mg w) : FnOk P w K mg base CX0 4 T.f_is_within T.fd_is_within ["value", "nodes", "deep"] (sp_within K) := by
  have G_is_node := ok_is_node (P := P) (w := w) (base := base) T D
  have G_children_of := ok_children_of (P := P) (w := w) (base := base) T D
  have b_is_node := T.d_is_node.F.binds (ps := ["value"]) fun _ _ _ _ _ _ us hl => match us, hl with | [_], _ => rfl
  have b_children_of := T.d_children_of.F.binds (ps := ["term"]) fun _ _ _ _ _ _ us hl => match us, hl with | [_], _ => rfl
  refine T.d_is_within.F.ok sc_is_within (fun vs H Q E h => ?_) (fun cdv A outer s H vs Q E hr h => ?_)
  · obtain ⟨v, t, rfl, _⟩ := h
    rfl
  · obtain ⟨v, t, rfl, hv, ok, hd, k⟩ := h
    have hu := hu_of hr
    have hu64 := hr.units
    refine ⟨_, (pss_cons (ps_par (i := 3) (j := 4) rfl sc_is_within.nd rfl rfl (by decide) rfl rfl (pa_cons (pe_lst (pa_cons (pe_tup (pa_cons (pv 0) (pa_cons pe_int pa_nil))) pa_nil)) (pa_cons pe_int pa_nil)) (by rfl))
      (pss_cons (ps_while PassesOwn.never (pt_cmpR (opNeB (K := K) rfl hu64) (pv 3) (pe_lst pa_nil) (nomark _)) (pss_cons (ps_asg (pe_bm0 PySem.F.plainAttrs_list PySem.F.slot_list_pop PySem.F.type_list_pop mt_pop (pv 3)) (pg_tup rfl (pgs_cons (pg_name (i := 5) sc_is_within.nd rfl (Or.inl rfl)) (pgs_cons (pg_name (i := 6) sc_is_within.nd rfl (Or.inr rfl)) pgs_nil))))
      (pss_cons (ps_aug (i := 4) sc_is_within.nd rfl (Or.inl rfl) pe_int ip_add)
      (pss_cons (ps_if (PW.pt (pw_or (pt_cmpR op_gt (pv 4) (pv 1) (nomark _)) (pw_or (pt_cmpR op_gt (pv 6) (pv 2) (nomark _)) (pw_or1 (pt_not (pt_val (pe_call G_is_node (hr.mono (by first | decide | omega)) rfl T.d_is_node.g T.d_is_node.F.kp b_is_node .nil pass0 (pa_cons (pv 5) pa_nil)))))))) (pss_one (ps_ret pe_bl)) pss_nil)
      (pss_one (ps_expr (pe_bm PySem.F.plainAttrs_list PySem.F.slot_list_extend PySem.F.type_list_extend (mt_extB (K := K) rfl) (pv 3) (pa_cons (pe_lc (own := [("child", 7)]) (g := gName 7) rfl sc_is_within.nd (pi_tup (pe_call G_children_of (hr.mono (by first | decide | omega)) rfl T.d_children_of.g T.d_children_of.F.kp b_children_of .nil pass0 (pa_cons (pv 5) pa_nil))) (blkOk_by (own := [("child", 7)]) (N := nm_is_within) (sc := defScope s_is_within) (by decide +kernel)) (fun _ _ _ _ _ => pg_name (i := 7) sc_is_within.nd rfl (Or.inl rfl)) (fun _ _ _ _ _ => pts_nil) (fun _ _ _ _ _ => (pe_tup (pa_cons (pv 7) (pa_cons (pe_op (opAddB (K := K) rfl) (pv 6) pe_int) pa_nil))))) pa_nil))))))))
      (pss_one (ps_ret pe_bl)))), ?_⟩
    have hsz := (szT_le t).1
    have hpw : 2 ^ depT t ≤ 2 ^ 10 := Nat.pow_le_pow_right (by decide) hd
    tm_at "rd"
    intro t1 ht1
    tm_at "rd"
    intro p hp
    repeat (with_reducible first | refine r_nil ?_ | refine r_name ?_ | refine r_two ?_)
    dsimp only
    have s1 := same_new (o := .tup [v, .int 1]) ht1
    have s2 := s1.trans (same_new (o := .lst [.ref t1]) hp)
    have hp0 := same_none s1 hp
    have hL := upd_same (H := upd H t1 (.tup [v, .int 1])) (a := p) (o := .lst [.ref t1])
    have hv1 : Dp K (upd H t1 (.tup [v, .int 1]))  (.ref t1) (atD (t, 1)) := .tup (SqT.of upd_same) (.cons (hv.same s1) (.cons (.int 1) .nil))
    have hA : DpAll K (upd (upd H t1 (.tup [v, .int 1])) p (.lst [.ref t1])) [.ref t1] ([(t, 1)].map atD) := .cons (hv1.same (same_new hp)) .nil
    generalize upd (upd H t1 (.tup [v, .int 1])) p (.lst [.ref t1]) = H2 at s2 hL hA
    tm_at "rd"
    refine r_whileR (fun m σ H1 => ∃ (vs : List V) (ps : List (Tl × Nat)) (mn : Nat) (o5 o6 o7 : Option V), σ = [some v, some (.int 20000), some (.int 150), some (.ref p), some (.int (mn : Nat)), o5, o6, o7] ∧ Same H H1 ∧ H1 p = some (.lst vs) ∧ DpAll K H1 vs (ps.map atD) ∧ (∀ x ∈ ps, OkT x.1 ∧ x.2 + depT x.1 ≤ 12) ∧ mn + szL ps ≤ 2000 ∧ m = szL ps)
      (szL [(t, 1)]) ⟨[.ref t1], [(t, 1)], 0, none, none, none, rfl, s2, hL, hA, ?_, ?_, rfl⟩ ?_
    · intro x hx
      obtain rfl := List.mem_singleton.mp hx
      exact ⟨ok, by simp only; omega⟩
    · simp only [szL]; omega
    clear s1 s2 hL hA hv1 hv
    rintro m σ H1 ⟨vs, ps, mn, o5, o6, o7, rfl, s1, hL, hA, hok, hmn, rfl⟩
    tm_at "rd"
    intro q hq
    have hL1 := same_new (o := .lst []) hq _ _ hL
    have hA1 := hA.same (same_new (o := .lst []) hq)
    have s2 := s1.trans (same_new (o := .lst []) hq)
    refine b_neE_lst (SqL.of hL1) upd_same ⟨_, rfl, ?_⟩
    generalize upd H1 q (.lst []) = H2 at hL1 hA1 s2
    rcases List.eq_nil_or_concat vs with rfl | ⟨vs0, u, rfl⟩
    · tm_at "rd"
      exact k _ s2
    rw [List.concat_eq_append] at *
    rw [if_pos (by simp : (!(vs0 ++ [u]).isEmpty) = true)]
    refine turn_r ?_
    obtain ⟨ds0, e, he, hA0, hue⟩ := dp_last hA1
    obtain ⟨ps0, x, rfl, rfl, rfl⟩ : ∃ ps0 x, ps = ps0 ++ [x] ∧ ds0 = ps0.map atD ∧ e = atD x := by
      rcases List.eq_nil_or_concat ps with rfl | ⟨ps0, x, rfl⟩
      · simp at he
      · rw [List.concat_eq_append, List.map_append] at he
        have := List.append_inj_right' he rfl
        exact ⟨ps0, x, List.concat_eq_append .., (List.append_inj_left' he rfl).symm, (List.cons.inj this).1.symm⟩
    obtain ⟨xt, xn⟩ := x
    obtain ⟨okx, hdx⟩ := hok (xt, xn) (by simp)
    simp only at okx hdx
    have hszx := szL_kids (xt, xn)
    rw [szL_app] at hmn
    simp only [szL, Nat.add_zero] at hmn hszx
    have hl0 := szL_len ps0
    have hxp := szT_pos xt
    tm_at "rd"
    refine ⟨ty_l hL1, p, _, u, rfl, rfl, hL1, by simp, ?_⟩
    rw [List.dropLast_concat]
    have kt2 : Kt H2 (upd H2 p (.lst vs0)) := Kt.upd hL1 not_tupU_lst
    have hA2 := DpAll_kt kt2 (ats_only ps0) hA0
    have hu2 := Dp_kt kt2 (at_only (xt, xn)) hue
    have s3 : Same H (upd H2 p (.lst vs0)) := same_upd hp0 s2
    have hL3 := upd_same (H := H2) (a := p) (o := .lst vs0)
    generalize upd H2 p (.lst vs0) = H3 at hA2 hu2 s3 hL3
    clear hA1 hA0 hue hL1 s2 kt2 hA hL hq s1 he
    obtain ⟨a, y, z, rfl, hta, hy, hz⟩ := dp_tup2 hu2
    obtain rfl := dp_int hz
    refine r_gtup hta rfl ?_
    tm_at "rd"
    refine bd_f (by omega) ?_
    tm_at "rd"
    refine bd_f (by omega) ?_
    tm_at "rd"
    refine ⟨y, xt, rfl, hy, okx, fun H4 s4 => ?_⟩
    tm_at "rd"
    refine ⟨ty_l (s4 _ _ hL3), ?_⟩
    tm_at "rd"
    refine ⟨y, xt, rfl, hy.same s4, fun H5 c cv s5 hc hcv => ?_⟩
    have s45 := s4.trans s5
    refine ⟨c, rfl, ⟨_, SqT.of hc⟩, fun l hl => ?_⟩
    have hcl := hcv.length
    rw [List.length_map] at hcl
    have hkl := kids_len xt
    have hkt := s45
    refine lc_dp (K := K) (walk_tup (K := K) (a := c) (xs := cv)) (fun j => ((deepKids (xt, xn)).map atD).getD j .none) (fun j => only_getD (ats_only _) j) (by exact Nat.lt_of_le_of_lt (by omega : cv.length ≤ 2) (by decide)) (fun H6 s6 => Same.tup s6 (SqT.of hc)) (fun j x H6 H7 _ s6 y => by rw [y.1]; exact Same.refl _) (fun j x H6 H7 hj s6 y Q3 R3 q => ?_) hl (fun H6 acc s6 h6 hA6 => ?_)
    · obtain ⟨rfl, hx2⟩ := y
      tm_at "rd"
      refine ⟨rfl, ?_⟩
      tm_at "rd"
      intro z1 hz1
      obtain ⟨d, hd1, hd2⟩ := dp_at (hcv.same s6) hx2
      obtain ⟨kt, hkt1, rfl, hkt2⟩ := deep_at (n := xn) hd1
      rw [hkt2] at q
      have t1 := same_new (o := .tup [x, .int ((xn : Int) + 1)]) hz1
      exact q _ _ t1 (.tup (SqT.of upd_same) (.cons (hd2.same t1) (.cons (.int _) .nil)))
    · have el : cv.length = ((deepKids (xt, xn)).map atD).length := by simp [deepKids, hcl]
      rw [range_getD _ _ el] at hA6
      have s36 := s45.trans s6
      have hal := hA6.length
      have hvl := hA2.length
      rw [List.length_map] at hvl
      tm_at "rd"
      have hL6 := s36 _ _ hL3
      refine .inl ⟨p, l, vs0, acc, rfl, rfl, hL6, h6, Nat.le_trans (by omega : vs0.length + acc.length ≤ 3000) (by decide), ?_⟩
      have kt6 : Kt H6 (upd H6 p (.lst (vs0 ++ acc))) := Kt.upd hL6 not_tupU_lst
      refine ⟨szL (ps0 ++ deepKids (xt, xn)), ?_, vs0 ++ acc, ps0 ++ deepKids (xt, xn), mn + 1, _, _, _, rfl, same_upd hp0 (s3.trans s36), upd_same, ?_, ?_, ?_, rfl⟩
      · rw [szL_app, szL_app]
        simp only [szL]
        omega
      · rw [List.map_append]
        have h := (hA2.same s36).app hA6
        refine DpAll_kt kt6 ?_ h
        rw [← List.map_append]
        exact ats_only _
      · intro z hz
        rcases List.mem_append.mp hz with hz | hz
        · exact hok z (by simp [hz])
        · unfold deepKids at hz
          obtain ⟨kt, hk1, rfl⟩ := List.mem_map.mp hz
          obtain ⟨o1, o2⟩ := kids_ok okx kt hk1
          exact ⟨o1, by simp only; omega⟩
      · rw [szL_app]
        omega
end
end K68

set_option maxHeartbeats 4000000
/-! W68d: data and tellings. -/
namespace K68
open PySem PySem.Spec PyProof.Rows L2 TL Ak Kd Jn
local macro_rules | `(tactic| tm_at "rd1") => `(tactic| with_reducible first
  | refine r_seq ?_ | refine r_ifS ?_ | refine r_ret ?_ | refine r_asg ?_ | refine r_next ?_ | refine r_drop ?_ | refine r_par ?_ | refine r_brk ?_ | refine r_cont ?_
  | refine r_op ?_ | refine r_c ?_ | refine r_cb ?_ | refine r_cons ?_ | refine r_nil ?_ | refine r_un ?_ | refine r_tB ?_ | refine r_test ?_ | refine r_not ?_ | refine r_and ?_ | refine r_or ?_ | refine r_andV ?_ | refine r_orV ?_ | refine r_notV ?_ | refine r_if ?_ | refine r_chain ?_
  | refine r_tup ?_ | refine r_lst ?_ | refine r_lstN ?_ | refine r_sl ?_ | refine r_part ?_ | refine r_nopart ?_ | refine r_call ?_ | refine r_callK ?_ | refine r_bm ?_ | refine r_bm0 ?_ | refine r_m1 ?_ | refine r_m0 ?_ | refine r_isN ?_ | refine r_notN ?_
  | refine r_gcons ?_ | refine r_gnil ?_ | refine r_gsub ?_ | refine r_name ?_ | refine r_ilist ?_ | refine r_itup ?_ | refine r_istr ?_ | refine r_irng1 ?_ | refine r_ienum ?_ | refine r_mko ?_ | refine r_yes ?_ | refine r_lc ?_ | refine r_for ?_ | refine turn_i ?_
  | refine r_dput ?_ | refine r_dget ?_ | refine r_izipA ?_ | refine r_ienumT ?_ | refine r_back ?_ | refine r_dsetd ?_ | refine r_dgetN ?_ | refine r_dnotinN ?_ | refine r_isTr ?_ | refine r_lockAsg ?_ | refine r_bl ?_ | refine r_int ?_ | refine r_two ?_ | refine r_str ?_ | refine r_two1 ?_
  | refine b_t ?_ | refine b_f ?_ | refine b_nt ?_ | refine b_nf ?_ | refine q_u ?_ | refine q_i0 ?_ | refine q_ipI ?_ | refine b_add_int ?_ | refine b_eq_int ?_ | refine b_ne_int ?_ | refine b_eq_tx ?_ | refine b_ne_tx ?_ | refine b_in_sg ?_ | refine q_ni_sg ?_)
local macro_rules | `(tactic| tm_at "rd2") => `(tactic| first
  | tm_at "rd1" | refine r_var rfl ?_ | refine r_aug rfl ?_ 
  | refine And.intro (small_n (by simp)) ?_ | tm_at "rdl" | tm_at "rdk")
local macro_rules | `(tactic| tm_at "rdk") => `(tactic| with_reducible first | refine b_isStrV ?_ | refine b_isBlV ?_ | refine b_isIntV ?_ | refine b_isIntB ?_ | refine b_isTupS (by assumption) ?_ | refine b_isTup (by assumption) ?_ | refine b_isInt (by assumption) ?_ | refine b_isBl (by assumption) ?_ | refine b_isStr (by assumption) ?_ | refine b_isLst (by assumption) ?_)
local macro_rules | `(tactic| tm_at "rdl") => `(tactic| first | (with_reducible refine q_len_tx (by assumption) ?_) | (with_reducible refine q_len_tx (by omega) ?_) | (with_reducible refine q_lenB_tx (by assumption) ?_) | (with_reducible refine q_lenB_tx (by omega) ?_))
local macro_rules | `(tactic| tm_at "rd") => `(tactic| repeat tm_at "rd2")
local macro_rules | `(tactic| tm_at "rdw") => `(tactic| repeat (first | tm_at "rd2" | with_reducible refine bd_t rfl ?_ | with_reducible refine bd_f (by decide) ?_ | with_reducible refine bnd_f rfl ?_ | with_reducible refine bnd_t (by decide) ?_))

def wordT : Tl → List Nat
  | .int _ => cs "int"
  | .tt => cs "bool"
  | .uu => cs "unit"
  | .nn => cs "nil"
  | .pr _ _ => cs "pair"
  | .cn _ _ => cs "cons"
theorem tl_word {K : PySem.W.Frag} {H : Hp} {v : V} {t : Tl} (h : Tv K H v t) : ∃ p xs, v = .ref p ∧ SqT K H p (.str (tx (wordT t)) :: xs) := by
  cases t with
  | int z =>
    change Dp K H v (.tuple [.str (tx (cs "int")), .int z]) at h
    obtain ⟨p, x, y, rfl, ht, hx, _⟩ := dp_tup2 h
    obtain rfl := dp_str hx
    exact ⟨p, _, rfl, ht⟩
  | tt =>
    change Dp K H v (.tuple [.str (tx (cs "bool")), .bool true]) at h
    obtain ⟨p, x, y, rfl, ht, hx, _⟩ := dp_tup2 h
    obtain rfl := dp_str hx
    exact ⟨p, _, rfl, ht⟩
  | uu =>
    change Dp K H v (.tuple [.str (tx (cs "unit"))]) at h
    obtain ⟨p, x, rfl, ht, hx⟩ := dp_tup1 h
    obtain rfl := dp_str hx
    exact ⟨p, _, rfl, ht⟩
  | nn =>
    change Dp K H v (.tuple [.str (tx (cs "nil"))]) at h
    obtain ⟨p, x, rfl, ht, hx⟩ := dp_tup1 h
    obtain rfl := dp_str hx
    exact ⟨p, _, rfl, ht⟩
  | pr a b =>
    change Dp K H v (.tuple [.str (tx (cs "pair")), tlD a, tlD b]) at h
    obtain ⟨p, x, y, y', rfl, ht, hx, _⟩ := dp_tup3 h
    obtain rfl := dp_str hx
    exact ⟨p, _, rfl, ht⟩
  | cn a b =>
    change Dp K H v (.tuple [.str (tx (cs "cons")), tlD a, tlD b]) at h
    obtain ⟨p, x, y, y', rfl, ht, hx, _⟩ := dp_tup3 h
    obtain rfl := dp_str hx
    exact ⟨p, _, rfl, ht⟩
theorem word6 (t : Tl) : ([cs "int", cs "bool", cs "unit", cs "nil", cs "pair", cs "cons"] : List (List Nat)).contains (wordT t) = true := by
  cases t <;> (simp only [wordT]; decide)
def szTs : List Tl → Nat
  | [] => 0
  | x :: ps => szT x + szTs ps
theorem szTs_app : ∀ a b, szTs (a ++ b) = szTs a + szTs b
  | [], b => by simp [szTs]
  | x :: a, b => by simp only [List.cons_append, szTs, szTs_app a b]; omega
theorem szTs_len : ∀ a, a.length ≤ szTs a
  | [] => Nat.le_refl _
  | x :: a => by
    have := szTs_len a
    have := szT_pos x
    simp only [List.length_cons, szTs]
    omega
theorem szTs_kids (x : Tl) : szTs (kids x) + 1 = szT x := by
  cases x <;> simp only [kids, szTs, szT] <;> omega
theorem last_map {α β : Type} {f : α → β} {ps : List α} {ds0 : List β} {e : β} (he : ps.map f = ds0 ++ [e]) : ∃ ps0 x, ps = ps0 ++ [x] ∧ ds0 = ps0.map f ∧ e = f x := by
  rcases List.eq_nil_or_concat ps with rfl | ⟨ps0, x, rfl⟩
  · simp at he
  · rw [List.concat_eq_append, List.map_append] at he
    have := List.append_inj_right' he rfl
    exact ⟨ps0, x, List.concat_eq_append .., (List.append_inj_left' he rfl).symm, (List.cons.inj this).1.symm⟩
theorem strOk_of {x : Str} (h : x.cps.toList.all (fun c => decide (c < 128)) = true) : PyData.strOk x = true := by
  unfold PyData.strOk
  rw [Array.all_eq_true']
  intro c hc
  rw [List.all_eq_true] at h
  have := h c (by simpa using hc)
  simp only [decide_eq_true_eq] at this ⊢
  omega
theorem strOk_tx {l : List Nat} (h : l.all (fun c => decide (c < 128)) = true) : PyData.strOk (tx l) = true := strOk_of (by rw [show (tx l).cps.toList = l from rfl]; exact h)
theorem canLay_tl : ∀ t : Tl, PyData.canLay0 (tlD t) = true
  | .int z => by simp only [tlD, PyData.canLay0, PyData.canLayAll0, strOk_tx (show (cs "int").all (fun c => decide (c < 128)) = true by decide)]; rfl
  | .tt => by simp only [tlD, PyData.canLay0, PyData.canLayAll0, strOk_tx (show (cs "bool").all (fun c => decide (c < 128)) = true by decide)]; rfl
  | .uu => by simp only [tlD, PyData.canLay0, PyData.canLayAll0, strOk_tx (show (cs "unit").all (fun c => decide (c < 128)) = true by decide)]; rfl
  | .nn => by simp only [tlD, PyData.canLay0, PyData.canLayAll0, strOk_tx (show (cs "nil").all (fun c => decide (c < 128)) = true by decide)]; rfl
  | .pr a b => by simp only [tlD, PyData.canLay0, PyData.canLayAll0, canLay_tl a, canLay_tl b, strOk_tx (show (cs "pair").all (fun c => decide (c < 128)) = true by decide)]; rfl
  | .cn a b => by simp only [tlD, PyData.canLay0, PyData.canLayAll0, canLay_tl a, canLay_tl b, strOk_tx (show (cs "cons").all (fun c => decide (c < 128)) = true by decide)]; rfl
theorem depth_tl : ∀ t : Tl, PyData.depth (tlD t) ≤ depT t
  | .int z => by simp [tlD, PyData.depth, PyData.depthAll, depT]
  | .tt => by simp [tlD, PyData.depth, PyData.depthAll, depT]
  | .uu => by simp [tlD, PyData.depth, PyData.depthAll, depT]
  | .nn => by simp [tlD, PyData.depth, PyData.depthAll, depT]
  | .pr a b => by
    have := depth_tl a
    have := depth_tl b
    simp only [tlD, PyData.depth, PyData.depthAll, depT]
    omega
  | .cn a b => by
    have := depth_tl a
    have := depth_tl b
    simp only [tlD, PyData.depth, PyData.depthAll, depT]
    omega
theorem shaped_tl {t : Tl} (h : depT t ≤ 50) : SeqAt.shaped (tlD t) = true := by
  unfold SeqAt.shaped
  have := depth_tl t
  rw [canLay_tl t, Bool.true_and, decide_eq_true_eq]
  omega
theorem shaped_fun : SeqAt.shaped (.tuple [.str (tx (cs "fun"))]) = true := by
  unfold SeqAt.shaped
  simp only [PyData.canLay0, PyData.canLayAll0, strOk_tx (show (cs "fun").all (fun c => decide (c < 128)) = true by decide)]
  rfl
theorem eqv_fun (t : Tl) : PyData.eqv (tlD t) (.tuple [.str (tx (cs "fun"))]) = false := by
  cases t <;> rfl
section
variable {P : Program} {w : World} {K : PySem.W.Frag} {mg : Str → Option Value} {base : Heap}
def sp_tl (K : PySem.W.Frag) : Sp := fun vs H Q _ => ∃ (v : V) (t : Tl), vs = [v] ∧ Tv K H v t ∧ OkT t ∧ depT t ≤ 10 ∧ ∀ H', Same H H' → Q (.bl true) H'
theorem ok_is_data_of (T : Tx K mg) (D : Td K mg w) : FnOk P w K mg base CX0 5 T.f_is_data_of T.fd_is_data_of ["value"] (sp_tl K) := by
  have G_is_within := ok_is_within (P := P) (w := w) (base := base) T D
  have G_children_of := ok_children_of (P := P) (w := w) (base := base) T D
  have b_is_within := T.d_is_within.F.binds (ps := ["value", "nodes", "deep"]) fun _ _ _ _ _ _ us hl => match us, hl with | [_, _, _], _ => rfl
  have b_children_of := T.d_children_of.F.binds (ps := ["term"]) fun _ _ _ _ _ _ us hl => match us, hl with | [_], _ => rfl
  refine T.d_is_data_of.F.ok sc_is_data_of (fun vs H Q E h => ?_) (fun cdv A outer s H vs Q E hr h => ?_)
  · obtain ⟨v, t, rfl, _⟩ := h
    rfl
  · obtain ⟨v, t, rfl, hv, ok, hd, k⟩ := h
    have hu := hu_of hr
    have hu64 := hr.units
    refine ⟨_, (pss_cons (ps_if (pt_not (pt_val (pe_call G_is_within (hr.mono (by first | decide | omega)) rfl T.d_is_within.g T.d_is_within.F.kp b_is_within .nil pass0 (pa_cons (pv 0) (pa_cons (pe_const T.c_MOST_VALUE_NODES (by rfl)) (pa_cons (pe_const T.c_MOST_VALUE_DEEP (by rfl)) pa_nil)))))) (pss_one (ps_ret pe_bl)) pss_nil)
      (pss_cons (ps_set (i := 1) sc_is_data_of.nd rfl (Or.inl rfl) (pe_lst (pa_cons (pv 0) pa_nil)))
      (pss_cons (ps_while PassesOwn.never (pt_cmpR (opNeB (K := K) rfl hu64) (pv 1) (pe_lst pa_nil) (nomark _)) (pss_cons (ps_set (i := 2) sc_is_data_of.nd rfl (Or.inl rfl) (pe_bm0 PySem.F.plainAttrs_list PySem.F.slot_list_pop PySem.F.type_list_pop mt_pop (pv 1)))
      (pss_cons (ps_if (pt_cmpR (opNi (K := K) rfl) (pe_ix (ixAny (K := K) rfl) (pv 2) pe_int (fun _ _ => rfl)) (pe_tup (pa_cons (pe_const T.c_INT (by rfl)) (pa_cons (pe_const T.c_BOOL (by rfl)) (pa_cons (pe_const T.c_UNIT (by rfl)) (pa_cons (pe_const T.c_NIL (by rfl)) (pa_cons (pe_const T.c_PAIR (by rfl)) (pa_cons (pe_const T.c_CONS (by rfl)) pa_nil))))))) (by rfl)) (pss_one (ps_ret pe_bl)) pss_nil)
      (pss_one (ps_expr (pe_bm PySem.F.plainAttrs_list PySem.F.slot_list_extend PySem.F.type_list_extend (mt_extB (K := K) rfl) (pv 1) (pa_cons (pe_call G_children_of (hr.mono (by first | decide | omega)) rfl T.d_children_of.g T.d_children_of.F.kp b_children_of .nil pass0 (pa_cons (pv 2) pa_nil)) pa_nil)))))))
      (pss_one (ps_ret pe_bl))))), ?_⟩
    have hsz := (szT_le t).1
    have hpw : 2 ^ depT t ≤ 2 ^ 10 := Nat.pow_le_pow_right (by decide) hd
    tm_at "rd"
    refine ⟨v, t, rfl, hv, ok, hd, fun H1 s1 => ?_⟩
    tm_at "rd"
    intro p hp
    have s2 := s1.trans (same_new (o := .lst [v]) hp)
    have hp0 := same_none s1 hp
    have hL := upd_same (H := H1) (a := p) (o := .lst [v])
    have hA : DpAll K (upd H1 p (.lst [v])) [v] ([t].map tlD) := .cons (hv.same s2) .nil
    generalize upd H1 p (.lst [v]) = H2 at s2 hL hA
    refine r_name ?_
    refine r_seq ?_
    refine r_whileR (fun m σ H1 => ∃ (vs : List V) (ps : List Tl) (o2 : Option V), σ = [some v, some (.ref p), o2] ∧ Same H H1 ∧ H1 p = some (.lst vs) ∧ DpAll K H1 vs (ps.map tlD) ∧ szTs ps ≤ 2000 ∧ m = szTs ps)
      (szTs [t]) ⟨[v], [t], none, rfl, s2, hL, hA, by simp only [szTs]; omega, rfl⟩ ?_
    clear s1 s2 hL hA hv
    rintro m σ H1 ⟨vs, ps, o2, rfl, s1, hL, hA, hmn, rfl⟩
    tm_at "rd"
    intro q hq
    have hL1 := same_new (o := .lst []) hq _ _ hL
    have hA1 := hA.same (same_new (o := .lst []) hq)
    have s2 := s1.trans (same_new (o := .lst []) hq)
    refine b_neE_lst (SqL.of hL1) upd_same ⟨_, rfl, ?_⟩
    generalize upd H1 q (.lst []) = H2 at hL1 hA1 s2
    rcases List.eq_nil_or_concat vs with rfl | ⟨vs0, u, rfl⟩
    · tm_at "rd"
      exact k _ s2
    rw [List.concat_eq_append] at *
    rw [if_pos (by simp : (!(vs0 ++ [u]).isEmpty) = true)]
    refine turn_r ?_
    obtain ⟨ds0, e, he, hA0, hue⟩ := dp_last hA1
    obtain ⟨ps0, x, rfl, rfl, rfl⟩ := last_map he
    have hszx := szTs_kids x
    rw [szTs_app] at hmn
    simp only [szTs, Nat.add_zero] at hmn
    have hl0 := szTs_len ps0
    have hxp := szT_pos x
    tm_at "rd"
    refine ⟨ty_l hL1, p, _, u, rfl, rfl, hL1, by simp, ?_⟩
    rw [List.dropLast_concat]
    have kt2 : Kt H2 (upd H2 p (.lst vs0)) := Kt.upd hL1 not_tupU_lst
    have hA2 := DpAll_kt kt2 (tls_only ps0) hA0
    have hu2 := Dp_kt kt2 (tlD_only x) hue
    have s3 : Same H (upd H2 p (.lst vs0)) := same_upd hp0 s2
    have hL3 := upd_same (H := H2) (a := p) (o := .lst vs0)
    generalize upd H2 p (.lst vs0) = H3 at hA2 hu2 s3 hL3
    clear hA1 hA0 hue hL1 s2 kt2 hA hL hq s1 he
    obtain ⟨a, xs, rfl, hta⟩ := tl_word hu2
    tm_at "rd"
    refine q_ix_tup hta (at0 _ _) ?_
    tm_at "rd"
    intro q2 hq2
    have s4 := same_new (o := .tup [.str (tx (cs "int")), .str (tx (cs "bool")), .str (tx (cs "unit")), .str (tx (cs "nil")), .str (tx (cs "pair")), .str (tx (cs "cons"))]) hq2
    refine q_ni_txs (ys := [cs "int", cs "bool", cs "unit", cs "nil", cs "pair", cs "cons"]) (.inr (SqT.of upd_same)) ?_
    rw [word6]
    have hu4 := hu2.same s4
    have hA4 := hA2.same s4
    have hL4 := s4 _ _ hL3
    generalize upd H3 q2 (.tup [.str (tx (cs "int")), .str (tx (cs "bool")), .str (tx (cs "unit")), .str (tx (cs "nil")), .str (tx (cs "pair")), .str (tx (cs "cons"))]) = H4 at s4 hu4 hA4 hL4
    tm_at "rd"
    refine ⟨ty_l hL4, ?_⟩
    tm_at "rd"
    refine ⟨.ref a, x, rfl, hu4, fun H5 c cv s5 hc hcv => ?_⟩
    have hL5 := s5 _ _ hL4
    have hvl := hA2.length
    have hcl := hcv.length
    have hkl := kids_len x
    rw [List.length_map] at hvl hcl
    tm_at "rd"
    refine .inr ⟨p, c, vs0, cv, rfl, rfl, hL5, SqT.of hc, Nat.le_trans (by omega : vs0.length + cv.length ≤ 3000) (by decide), ?_⟩
    have kt6 : Kt H5 (upd H5 p (.lst (vs0 ++ cv))) := Kt.upd hL5 not_tupU_lst
    refine ⟨szTs (ps0 ++ kids x), ?_, vs0 ++ cv, ps0 ++ kids x, _, rfl, same_upd hp0 ((s3.trans s4).trans s5), upd_same, ?_, ?_, rfl⟩
    · rw [szTs_app, szTs_app]
      simp only [szTs]
      omega
    · rw [List.map_append]
      refine DpAll_kt kt6 ?_ ((hA4.same s5).app hcv)
      rw [← List.map_append]
      exact tls_only _
    · rw [szTs_app]
      omega
def sp_telling (K : PySem.W.Frag) : Sp := fun vs H Q _ => ∃ (v : V) (t : Tl), vs = [v] ∧ Tv K H v t ∧ OkT t ∧ depT t ≤ 10 ∧ ∀ H', Same H H' → Q (.bl true) H'
theorem ok_is_telling_of (T : Tx K mg) (D : Td K mg w) : FnOk P w K mg base CX0 4 T.f_is_telling_of T.fd_is_telling_of ["value"] (sp_telling K) := by
  have G_is_node := ok_is_node (P := P) (w := w) (base := base) T D
  have G_children_of := ok_children_of (P := P) (w := w) (base := base) T D
  have b_is_node := T.d_is_node.F.binds (ps := ["value"]) fun _ _ _ _ _ _ us hl => match us, hl with | [_], _ => rfl
  have b_children_of := T.d_children_of.F.binds (ps := ["term"]) fun _ _ _ _ _ _ us hl => match us, hl with | [_], _ => rfl
  refine T.d_is_telling_of.F.ok sc_is_telling_of (fun vs H Q E h => ?_) (fun cdv A outer s H vs Q E hr h => ?_)
  · obtain ⟨v, t, rfl, _⟩ := h
    rfl
  · obtain ⟨v, t, rfl, hv, ok, hd, k⟩ := h
    have hu := hu_of hr
    have hu64 := hr.units
    refine ⟨_, (pss_cons (ps_set (i := 1) sc_is_telling_of.nd rfl (Or.inl rfl) (pe_lst (pa_cons (pe_tup (pa_cons (pv 0) (pa_cons pe_int pa_nil))) pa_nil)))
      (pss_cons (ps_while PassesOwn.never (pt_cmpR (opNeB (K := K) rfl hu64) (pv 1) (pe_lst pa_nil) (nomark _)) (pss_cons (ps_asg (pe_bm0 PySem.F.plainAttrs_list PySem.F.slot_list_pop PySem.F.type_list_pop mt_pop (pv 1)) (pg_tup rfl (pgs_cons (pg_name (i := 2) sc_is_telling_of.nd rfl (Or.inl rfl)) (pgs_cons (pg_name (i := 3) sc_is_telling_of.nd rfl (Or.inr rfl)) pgs_nil))))
      (pss_cons (ps_if (pt_cmpR op_gt (pv 3) (pe_const T.c_MOST_DEEP (by rfl)) (nomark _)) (pss_one (ps_ret pe_bl)) pss_nil)
      (pss_one (ps_if (pt_cmpR (opNeB (K := K) rfl hu64) (pv 2) (pe_tup (pa_cons (pe_const T.c_FUN (by rfl)) pa_nil)) (nomark _)) (pss_cons (ps_if (PW.pt (pw_or (pt_not (pt_val (pe_call G_is_node (hr.mono (by first | decide | omega)) rfl T.d_is_node.g T.d_is_node.F.kp b_is_node .nil pass0 (pa_cons (pv 2) pa_nil)))) (pw_or1 (pt_cmpR (opNi (K := K) rfl) (pe_ix (ixAny (K := K) rfl) (pv 2) pe_int (fun _ _ => rfl)) (pe_tup (pa_cons (pe_lit "int") (pa_cons (pe_lit "bool") (pa_cons (pe_lit "unit") (pa_cons (pe_lit "nil") (pa_cons (pe_lit "pair") (pa_cons (pe_lit "cons") pa_nil))))))) (by rfl))))) (pss_one (ps_ret pe_bl)) pss_nil)
      (pss_one (ps_expr (pe_bm PySem.F.plainAttrs_list PySem.F.slot_list_extend PySem.F.type_list_extend (mt_extB (K := K) rfl) (pv 1) (pa_cons (pe_lc (own := [("child", 4)]) (g := gName 4) rfl sc_is_telling_of.nd (pi_tup (pe_call G_children_of (hr.mono (by first | decide | omega)) rfl T.d_children_of.g T.d_children_of.F.kp b_children_of .nil pass0 (pa_cons (pv 2) pa_nil))) (blkOk_by (own := [("child", 4)]) (N := nm_is_telling_of) (sc := defScope s_is_telling_of) (by decide +kernel)) (fun _ _ _ _ _ => pg_name (i := 4) sc_is_telling_of.nd rfl (Or.inl rfl)) (fun _ _ _ _ _ => pts_nil) (fun _ _ _ _ _ => (pe_tup (pa_cons (pv 4) (pa_cons (pe_op (opAddB (K := K) rfl) (pv 3) pe_int) pa_nil))))) pa_nil))))) pss_nil)))))
      (pss_one (ps_ret pe_bl)))), ?_⟩
    have hsz := (szT_le t).1
    have hpw : 2 ^ depT t ≤ 2 ^ 10 := Nat.pow_le_pow_right (by decide) hd
    tm_at "rd"
    intro t1 ht1
    tm_at "rd"
    intro p hp
    have s1 := same_new (o := .tup [v, .int 1]) ht1
    have s2 := s1.trans (same_new (o := .lst [.ref t1]) hp)
    have hp0 := same_none s1 hp
    have hL := upd_same (H := upd H t1 (.tup [v, .int 1])) (a := p) (o := .lst [.ref t1])
    have hv1 : Dp K (upd H t1 (.tup [v, .int 1]))  (.ref t1) (atD (t, 1)) := .tup (SqT.of upd_same) (.cons (hv.same s1) (.cons (.int 1) .nil))
    have hA : DpAll K (upd (upd H t1 (.tup [v, .int 1])) p (.lst [.ref t1])) [.ref t1] ([(t, 1)].map atD) := .cons (hv1.same (same_new hp)) .nil
    generalize upd (upd H t1 (.tup [v, .int 1])) p (.lst [.ref t1]) = H2 at s2 hL hA
    refine r_name ?_
    refine r_seq ?_
    refine r_whileR (fun m σ H1 => ∃ (vs : List V) (ps : List (Tl × Nat)) (o2 o3 o4 : Option V), σ = [some v, some (.ref p), o2, o3, o4] ∧ Same H H1 ∧ H1 p = some (.lst vs) ∧ DpAll K H1 vs (ps.map atD) ∧ (∀ x ∈ ps, OkT x.1 ∧ x.2 + depT x.1 ≤ 12) ∧ szL ps ≤ 2000 ∧ m = szL ps)
      (szL [(t, 1)]) ⟨[.ref t1], [(t, 1)], none, none, none, rfl, s2, hL, hA, ?_, ?_, rfl⟩ ?_
    · intro x hx
      obtain rfl := List.mem_singleton.mp hx
      exact ⟨ok, by simp only; omega⟩
    · simp only [szL]; omega
    clear s1 s2 hL hA hv1 hv
    rintro m σ H1 ⟨vs, ps, o2, o3, o4, rfl, s1, hL, hA, hok, hmn, rfl⟩
    tm_at "rd"
    intro q hq
    have hL1 := same_new (o := .lst []) hq _ _ hL
    have hA1 := hA.same (same_new (o := .lst []) hq)
    have s2 := s1.trans (same_new (o := .lst []) hq)
    refine b_neE_lst (SqL.of hL1) upd_same ⟨_, rfl, ?_⟩
    generalize upd H1 q (.lst []) = H2 at hL1 hA1 s2
    rcases List.eq_nil_or_concat vs with rfl | ⟨vs0, u, rfl⟩
    · tm_at "rd"
      exact k _ s2
    rw [List.concat_eq_append] at *
    rw [if_pos (by simp : (!(vs0 ++ [u]).isEmpty) = true)]
    refine turn_r ?_
    obtain ⟨ds0, e, he, hA0, hue⟩ := dp_last hA1
    obtain ⟨ps0, x, rfl, rfl, rfl⟩ := last_map he
    obtain ⟨xt, xn⟩ := x
    obtain ⟨okx, hdx⟩ := hok (xt, xn) (by simp)
    simp only at okx hdx
    have hszx := szL_kids (xt, xn)
    rw [szL_app] at hmn
    simp only [szL, Nat.add_zero] at hmn hszx
    have hl0 := szL_len ps0
    have hxp := szT_pos xt
    tm_at "rd"
    refine ⟨ty_l hL1, p, _, u, rfl, rfl, hL1, by simp, ?_⟩
    rw [List.dropLast_concat]
    have kt2 : Kt H2 (upd H2 p (.lst vs0)) := Kt.upd hL1 not_tupU_lst
    have hA2 := DpAll_kt kt2 (ats_only ps0) hA0
    have hu2 := Dp_kt kt2 (at_only (xt, xn)) hue
    have s3 : Same H (upd H2 p (.lst vs0)) := same_upd hp0 s2
    have hL3 := upd_same (H := H2) (a := p) (o := .lst vs0)
    generalize upd H2 p (.lst vs0) = H3 at hA2 hu2 s3 hL3
    clear hA1 hA0 hue hL1 s2 kt2 hA hL hq s1 he
    obtain ⟨a, y, z, rfl, hta, hy, hz⟩ := dp_tup2 hu2
    obtain rfl := dp_int hz
    refine r_gtup hta rfl ?_
    tm_at "rd"
    refine bd_f (by omega) ?_
    tm_at "rd"
    intro q3 hq3
    have s4 := same_new (o := .tup [.str (tx (cs "fun"))]) hq3
    have hy4 := hy.same s4
    refine .inl (q_ne_dat hy4 (.tup (SqT.of upd_same) (.cons (.str _) .nil)) (shaped_tl (show depT xt ≤ 50 by omega)) shaped_fun ?_)
    rw [eqv_fun]
    have hA4 := hA2.same s4
    have hL4 := s4 _ _ hL3
    generalize upd H3 q3 (.tup [.str (tx (cs "fun"))]) = H4 at s4 hy4 hA4 hL4
    tm_at "rd"
    refine ⟨y, xt, rfl, hy4, okx, fun H5 s5 => ?_⟩
    obtain ⟨a2, xs, rfl, hta2⟩ := tl_word (hy4.same s5)
    tm_at "rd"
    refine q_ix_tup hta2 (at0 _ _) ?_
    tm_at "rd"
    intro q4 hq4
    have s6 := s5.trans (same_new (o := .tup [.str (tx (cs "int")), .str (tx (cs "bool")), .str (tx (cs "unit")), .str (tx (cs "nil")), .str (tx (cs "pair")), .str (tx (cs "cons"))]) hq4)
    refine q_ni_txs (ys := [cs "int", cs "bool", cs "unit", cs "nil", cs "pair", cs "cons"]) (.inr (SqT.of upd_same)) ?_
    rw [word6]
    generalize upd H5 q4 (.tup [.str (tx (cs "int")), .str (tx (cs "bool")), .str (tx (cs "unit")), .str (tx (cs "nil")), .str (tx (cs "pair")), .str (tx (cs "cons"))]) = H6 at s6
    have hy6 := hy4.same s6
    have hL6 := s6 _ _ hL4
    tm_at "rd"
    refine ⟨ty_l hL6, ?_⟩
    tm_at "rd"
    refine ⟨.ref a2, xt, rfl, hy6, fun H7 c cv s7 hc hcv => ?_⟩
    have s67 := s6.trans s7
    refine ⟨c, rfl, ⟨_, SqT.of hc⟩, fun l hl => ?_⟩
    have hcl := hcv.length
    rw [List.length_map] at hcl
    have hkl := kids_len xt
    refine lc_dp (K := K) (walk_tup (K := K) (a := c) (xs := cv)) (fun j => ((deepKids (xt, xn)).map atD).getD j .none) (fun j => only_getD (ats_only _) j) (by exact Nat.lt_of_le_of_lt (by omega : cv.length ≤ 2) (by decide)) (fun H8 s8 => Same.tup s8 (SqT.of hc)) (fun j x H8 H9 _ s8 y => by rw [y.1]; exact Same.refl _) (fun j x H8 H9 hj s8 y Q3 R3 q => ?_) hl (fun H8 acc s8 h8 hA8 => ?_)
    · obtain ⟨rfl, hx2⟩ := y
      tm_at "rd"
      refine ⟨rfl, ?_⟩
      tm_at "rd"
      intro z1 hz1
      obtain ⟨d, hd1, hd2⟩ := dp_at (hcv.same s8) hx2
      obtain ⟨kt, hkt1, rfl, hkt2⟩ := deep_at (n := xn) hd1
      rw [hkt2] at q
      have t1 := same_new (o := .tup [x, .int ((xn : Int) + 1)]) hz1
      exact q _ _ t1 (.tup (SqT.of upd_same) (.cons (hd2.same t1) (.cons (.int _) .nil)))
    · have el : cv.length = ((deepKids (xt, xn)).map atD).length := by simp [deepKids, hcl]
      rw [range_getD _ _ el] at hA8
      have s48 := s67.trans s8
      have hal := hA8.length
      have hvl := hA2.length
      rw [List.length_map] at hvl
      tm_at "rd"
      have hL8 := s48 _ _ hL4
      refine .inl ⟨p, l, vs0, acc, rfl, rfl, hL8, h8, Nat.le_trans (by omega : vs0.length + acc.length ≤ 3000) (by decide), ?_⟩
      have kt8 : Kt H8 (upd H8 p (.lst (vs0 ++ acc))) := Kt.upd hL8 not_tupU_lst
      refine ⟨szL (ps0 ++ deepKids (xt, xn)), ?_, vs0 ++ acc, ps0 ++ deepKids (xt, xn), _, _, _, rfl, same_upd hp0 ((s3.trans s4).trans s48), upd_same, ?_, ?_, ?_, rfl⟩
      · rw [szL_app, szL_app]
        simp only [szL]
        omega
      · rw [List.map_append]
        have h := (hA4.same s48).app hA8
        refine DpAll_kt kt8 ?_ h
        rw [← List.map_append]
        exact ats_only _
      · intro z hz
        rcases List.mem_append.mp hz with hz | hz
        · exact hok z (by simp [hz])
        · unfold deepKids at hz
          obtain ⟨kt, hk1, rfl⟩ := List.mem_map.mp hz
          obtain ⟨o1, o2⟩ := kids_ok okx kt hk1
          exact ⟨o1, by simp only; omega⟩
      · rw [szL_app]
        omega
end
end K68

set_option maxHeartbeats 4000000
/-! W68e: words of tellings. -/
namespace K68
open PySem PySem.Spec PyProof.Rows L2 TL Ak Kd Jn
local macro_rules | `(tactic| tm_at "rd1") => `(tactic| with_reducible first
  | refine r_seq ?_ | refine r_ifS ?_ | refine r_ret ?_ | refine r_asg ?_ | refine r_next ?_ | refine r_drop ?_ | refine r_par ?_ | refine r_brk ?_ | refine r_cont ?_
  | refine r_op ?_ | refine r_c ?_ | refine r_cb ?_ | refine r_cons ?_ | refine r_nil ?_ | refine r_un ?_ | refine r_tB ?_ | refine r_test ?_ | refine r_not ?_ | refine r_and ?_ | refine r_or ?_ | refine r_andV ?_ | refine r_orV ?_ | refine r_notV ?_ | refine r_if ?_ | refine r_chain ?_
  | refine r_tup ?_ | refine r_lst ?_ | refine r_lstN ?_ | refine r_sl ?_ | refine r_part ?_ | refine r_nopart ?_ | refine r_call ?_ | refine r_callK ?_ | refine r_bm ?_ | refine r_bm0 ?_ | refine r_m1 ?_ | refine r_m0 ?_ | refine r_isN ?_ | refine r_notN ?_
  | refine r_gcons ?_ | refine r_gnil ?_ | refine r_gsub ?_ | refine r_name ?_ | refine r_ilist ?_ | refine r_itup ?_ | refine r_istr ?_ | refine r_irng1 ?_ | refine r_ienum ?_ | refine r_mko ?_ | refine r_yes ?_ | refine r_lc ?_ | refine r_for ?_ | refine turn_i ?_
  | refine r_dput ?_ | refine r_dget ?_ | refine r_izipA ?_ | refine r_ienumT ?_ | refine r_back ?_ | refine r_dsetd ?_ | refine r_dgetN ?_ | refine r_dnotinN ?_ | refine r_isTr ?_ | refine r_lockAsg ?_ | refine r_bl ?_ | refine r_int ?_ | refine r_two ?_ | refine r_str ?_ | refine r_two1 ?_
  | refine b_t ?_ | refine b_f ?_ | refine b_nt ?_ | refine b_nf ?_ | refine q_u ?_ | refine q_i0 ?_ | refine q_ipI ?_ | refine b_add_int ?_ | refine b_eq_int ?_ | refine b_ne_int ?_ | refine b_eq_tx ?_ | refine b_ne_tx ?_ | refine b_in_sg ?_ | refine q_ni_sg ?_)
local macro_rules | `(tactic| tm_at "rd2") => `(tactic| first
  | tm_at "rd1" | refine r_var rfl ?_ | refine r_aug rfl ?_ 
  | refine And.intro (small_n (by simp)) ?_ | tm_at "rdl" | tm_at "rdk")
local macro_rules | `(tactic| tm_at "rdk") => `(tactic| with_reducible first | refine b_isStrV ?_ | refine b_isBlV ?_ | refine b_isIntV ?_ | refine b_isIntB ?_ | refine b_isTupS (by assumption) ?_ | refine b_isTup (by assumption) ?_ | refine b_isInt (by assumption) ?_ | refine b_isBl (by assumption) ?_ | refine b_isStr (by assumption) ?_ | refine b_isLst (by assumption) ?_)
local macro_rules | `(tactic| tm_at "rdl") => `(tactic| first | (with_reducible refine q_len_tx (by assumption) ?_) | (with_reducible refine q_len_tx (by omega) ?_) | (with_reducible refine q_lenB_tx (by assumption) ?_) | (with_reducible refine q_lenB_tx (by omega) ?_))
local macro_rules | `(tactic| tm_at "rd") => `(tactic| repeat tm_at "rd2")
local macro_rules | `(tactic| tm_at "rdw") => `(tactic| repeat (first | tm_at "rd2" | with_reducible refine bd_t rfl ?_ | with_reducible refine bd_f (by decide) ?_ | with_reducible refine bnd_f rfl ?_ | with_reducible refine bnd_t (by decide) ?_))

theorem cs_app (a b : String) : cs (a ++ b) = cs a ++ cs b := by
  unfold cs
  rw [String.toList_append, List.map_append]
theorem num_tx (z : Int) : Str.ofString (toString z) = tx (numI z) := by
  cases z with
  | ofNat n =>
    refine ext_tl ?_
    have h : tl (Str.ofString (toString ((n : Nat) : Int))) = numL n := tl_num n
    rw [show (Int.ofNat n) = ((n : Nat) : Int) from rfl, h]
    unfold numI
    rw [if_neg (by omega)]
    rfl
  | negSucc n =>
    refine ext_tl ?_
    have h : tl (Str.ofString (toString ((n + 1 : Nat) : Int))) = numL (n + 1) := tl_num (n + 1)
    rw [tl_ofString] at h ⊢
    have e : toString (Int.negSucc n) = "-" ++ toString ((n + 1 : Nat) : Int) := rfl
    show (toString (Int.negSucc n)).toList.map Char.toNat = _
    rw [e, String.toList_append, List.map_append]
    have h' : (toString ((n + 1 : Nat) : Int)).toList.map Char.toNat = numL (n + 1) := h
    rw [h']
    unfold numI
    rw [if_pos (by omega)]
    rfl
theorem log_le {z : Int} {n : Nat} (h : z.natAbs < 2 ^ n) (hn : n ≤ 1919) : z.natAbs.log2 < 1920 := by
  by_cases h0 : z.natAbs = 0
  · rw [h0]; decide
  · have := (Nat.log2_lt h0).mpr h
    omega
/-- the keys of PLAIN, what stands at each -/
def plains : List PyData := [.tuple [.str (tx (cs "bool")), .bool true], .tuple [.str (tx (cs "bool")), .bool false], .tuple [.str (tx (cs "unit"))], .tuple [.str (tx (cs "nil"))], .tuple [.str (tx (cs "fun"))]]
def pidx : Tl → Nat
  | .tt => 0
  | .uu => 2
  | .nn => 3
  | _ => 5
theorem walk_keysKD {ks : List Str} : Walk (ItkK ks) ks.length (fun _ => True) (fun i H x H' => H' = H ∧ ∃ k, ks[i]? = some k ∧ x = .str k) :=
  ⟨fun _ _ h _ => h, fun _ _ => Nat.le_refl _, fun _ _ _ _ _ _ y => y⟩
section
variable {P : Program} {w : World} {K : PySem.W.Frag} {mg : Str → Option Value} {base : Heap}
theorem tup_inv2 {H : Hp} {v : V} {a b : Tl} {s : String} (h : Dp K H v (.tuple [.str (tx (cs s)), tlD a, tlD b])) : ∃ p x y, v = .ref p ∧ SqT K H p [.str (tx (cs s)), x, y] ∧ Tv K H x a ∧ Tv K H y b := by
  obtain ⟨p, x, y, y', rfl, ht, hx, hy, hy'⟩ := dp_tup3 h
  obtain rfl := dp_str hx
  exact ⟨p, _, _, rfl, ht, hy, hy'⟩
theorem shaped1 {s : String} (h : (cs s).all (fun c => decide (c < 128)) = true) : SeqAt.shaped (.tuple [.str (tx (cs s))]) = true := by
  unfold SeqAt.shaped
  simp only [PyData.canLay0, PyData.canLayAll0, strOk_tx h]
  rfl
theorem shaped2 {s : String} {b : Bool} (h : (cs s).all (fun c => decide (c < 128)) = true) : SeqAt.shaped (.tuple [.str (tx (cs s)), .bool b]) = true := by
  unfold SeqAt.shaped
  simp only [PyData.canLay0, PyData.canLayAll0, strOk_tx h]
  rfl
theorem plain_at (D : Td K mg w) : ∀ (i : Nat) (k0 : Str), (["t", "f", "u", "n", "F"].map Str.ofString)[i]? = some k0 → ∃ (c : List Nat) (a : Addr) (d : PyData), k0 = tx c ∧ KAt K D.a_PLAIN (tx c) (.ref a) ∧ (∀ H, Dp K H (.ref a) d) ∧ SeqAt.shaped d = true ∧
    (∀ t, (∀ z, t ≠ Tl.int z) → PyData.eqv d (tlD t) = decide (pidx t = i)) ∧ ∀ t, pidx t = i → word t = c
  | 0, k0, e => ⟨cs "t", D.a_PLAIN_t, _, by rw [← Option.some.inj e, lit_eq], D.PLAIN_t, fun H => .tup (D.t_PLAIN_t H) (.cons (.str _) (.cons (.bl _) .nil)), shaped2 (by decide), fun t ht => by cases t <;> first | rfl | exact absurd rfl (ht _), fun t e => by cases t <;> first | rfl | exact absurd e (by simp [pidx])⟩
  | 1, k0, e => ⟨cs "f", D.a_PLAIN_f, _, by rw [← Option.some.inj e, lit_eq], D.PLAIN_f, fun H => .tup (D.t_PLAIN_f H) (.cons (.str _) (.cons (.bl _) .nil)), shaped2 (by decide), fun t ht => by cases t <;> first | rfl | exact absurd rfl (ht _), fun t e => by cases t <;> first | rfl | exact absurd e (by simp [pidx])⟩
  | 2, k0, e => ⟨cs "u", D.a_PLAIN_u, _, by rw [← Option.some.inj e, lit_eq], D.PLAIN_u, fun H => .tup (D.t_PLAIN_u H) (.cons (.str _) .nil), shaped1 (by decide), fun t ht => by cases t <;> first | rfl | exact absurd rfl (ht _), fun t e => by cases t <;> first | rfl | exact absurd e (by simp [pidx])⟩
  | 3, k0, e => ⟨cs "n", D.a_PLAIN_n, _, by rw [← Option.some.inj e, lit_eq], D.PLAIN_n, fun H => .tup (D.t_PLAIN_n H) (.cons (.str _) .nil), shaped1 (by decide), fun t ht => by cases t <;> first | rfl | exact absurd rfl (ht _), fun t e => by cases t <;> first | rfl | exact absurd e (by simp [pidx])⟩
  | 4, k0, e => ⟨cs "F", D.a_PLAIN_F, _, by rw [← Option.some.inj e, lit_eq], D.PLAIN_F, fun H => .tup (D.t_PLAIN_F H) (.cons (.str _) .nil), shaped1 (by decide), fun t ht => by cases t <;> first | rfl | exact absurd rfl (ht _), fun t e => by cases t <;> first | rfl | exact absurd e (by simp [pidx])⟩
  | _ + 5, _, e => by simp at e
theorem word_two {t : Tl} (h : pidx t = 5) (hi : ¬ ∃ z, t = .int z) : (∃ a b, t = .pr a b) ∨ ∃ a b, t = .cn a b := by
  cases t with
  | int z => exact absurd ⟨z, rfl⟩ hi
  | pr a b => exact .inl ⟨a, b, rfl⟩
  | cn a b => exact .inr ⟨a, b, rfl⟩
  | _ => simp [pidx] at h
def sp_word (K : PySem.W.Frag) (n : Nat) : Sp := fun vs H Q _ => ∃ (v : V) (t : Tl), vs = [v] ∧ Tv K H v t ∧ OkT t ∧ depT t ≤ n ∧ n ≤ 12 ∧ ∀ H', Same H H' → Q (.str (tx (word t))) H'
theorem word_step (T : Tx K mg) (D : Td K mg w) (n : Nat) (spS : Sp) (G_word_of : FnOk P w K mg base CX0 (1 + n) T.f_word_of T.fd_word_of ["telling"] spS) (hS : ∀ m, n = m + 1 → spS = sp_word K m) : FnOk P w K mg base CX0 (2 + n) T.f_word_of T.fd_word_of ["telling"] (sp_word K n) := by
  have b_word_of := T.d_word_of.F.binds (ps := ["telling"]) fun _ _ _ _ _ _ us hl => match us, hl with | [_], _ => rfl
  rw [show 2 + n = 1 + n + 1 by omega]
  refine T.d_word_of.F.ok sc_word_of (fun vs H Q E h => ?_) (fun cdv A outer s H vs Q E hr h => ?_)
  · obtain ⟨v, t, rfl, _⟩ := h
    rfl
  · obtain ⟨v, t, rfl, hv, ok, hd, hn, k⟩ := h
    have hu := hu_of hr
    have hu64 := hr.units
    refine ⟨_, (pss_cons (ps_if (pt_cmpR (opEqB (K := K) rfl hu64) (pe_ix (ixAny (K := K) rfl) (pv 0) pe_int (fun _ _ => rfl)) (pe_lit "int") (nomark _)) (pss_one (ps_ret (pe_op (opAddB (K := K) rfl) (pe_op (opAddB (K := K) rfl) (pe_lit "i") (pe_callTy call_str_int (by rfl) T.n_str (by decide +kernel) (pa_cons (pe_ix (ixAny (K := K) rfl) (pv 0) pe_int (fun _ _ => rfl)) pa_nil))) (pe_lit ";")))) pss_nil)
      (pss_cons (ps_for PassesOwn.never rfl (pi_keysKD D.k_PLAIN rfl rfl (pe_const D.c_PLAIN (by rfl))) (pg_name (i := 1) sc_word_of.nd rfl (Or.inl rfl)) (pss_one (ps_if (pt_cmpR (opEqB (K := K) rfl hu64) (pe_ix (ixKD D.k_PLAIN rfl rfl) (pe_const D.c_PLAIN (by rfl)) (pv 1) (fun _ _ => rfl)) (pv 0) (nomark _)) (pss_one (ps_ret (pv 1))) pss_nil)))
      (pss_cons (ps_set (i := 1) sc_word_of.nd rfl (Or.inl rfl) (pe_ifExp (pt_cmpR (opEqB (K := K) rfl hu64) (pe_ix (ixAny (K := K) rfl) (pv 0) pe_int (fun _ _ => rfl)) (pe_lit "pair") (nomark _)) (pe_lit "p") (pe_lit "c")))
      (pss_one (ps_ret (pe_op (opAddB (K := K) rfl) (pe_op (opAddB (K := K) rfl) (pv 1) (pe_call G_word_of (hr.mono (by first | decide | omega)) rfl T.d_word_of.g T.d_word_of.F.kp b_word_of .nil pass0 (pa_cons (pe_ix (ixAny (K := K) rfl) (pv 0) pe_int (fun _ _ => rfl)) pa_nil))) (pe_call G_word_of (hr.mono (by first | decide | omega)) rfl T.d_word_of.g T.d_word_of.F.kp b_word_of .nil pass0 (pa_cons (pe_ix (ixAny (K := K) rfl) (pv 0) pe_int (fun _ _ => rfl)) pa_nil)))))))), ?_⟩
    obtain ⟨p, xs, rfl, ht⟩ := tl_word hv
    tm_at "rd"
    refine q_ix_tup ht (at0 _ _) ?_
    tm_at "rd"
    by_cases hi : ∃ z, t = .int z
    · obtain ⟨z, rfl⟩ := hi
      change Dp K H (.ref p) (.tuple [.str (tx (cs "int")), .int z]) at hv
      obtain ⟨p, x, y, e, ht, hx, hy⟩ := dp_tup2 hv
      cases e
      obtain rfl := dp_int hy
      obtain rfl := dp_str hx
      refine bd_t rfl ?_
      tm_at "rd"
      refine q_ix_tup ht (v := .int z) rfl ?_
      tm_at "rd"
      have e31 : (2 : Nat) ^ 32 = 4294967296 := by decide
      have := ok.1
      have := ok.2
      refine ⟨z, rfl, log_le (n := 32) (by omega) (by decide), ?_⟩
      rw [num_tx]
      have hl := numI_len ok.1 ok.2
      tm_at "rd"
      refine b_add_tx (by rw [show (cs "i").length = 1 from rfl]; omega) ?_
      tm_at "rd"
      refine b_add_tx (by rw [List.length_append, show (cs "i").length = 1 from rfl, show (cs ";").length = 1 from rfl]; omega) ?_
      exact k _ (Same.refl _)
    · refine bd_f (fun e => hi ?_) ?_
      · cases t with
        | int z => exact ⟨z, rfl⟩
        | tt => exact absurd e (by decide)
        | uu => exact absurd e (by decide)
        | nn => exact absurd e (by decide)
        | pr a b => exact absurd (show cs "pair" = cs "int" from e) (by decide)
        | cn a b => exact absurd (show cs "cons" = cs "int" from e) (by decide)
      tm_at "rd"
      refine ⟨rfl, ?_⟩
      have hpi : pidx t ≤ 5 := by cases t <;> simp [pidx]
      have hsh : SeqAt.shaped (tlD t) = true := shaped_tl (by omega)
      refine for_it walk_keysKD (fun i σ Hc => ∃ o1, σ = [some (.ref p), o1] ∧ Hc = H ∧ i ≤ pidx t) ⟨none, rfl, rfl, Nat.zero_le _⟩ (fun _ _ _ _ _ => trivial) ?_ ?_
      · rintro i x σ Hc Hc' hi2 ⟨o1, rfl, rfl, hle⟩ ⟨rfl, k0, hk0, rfl⟩
        obtain ⟨c, a, d, rfl, hat, hdp, hsd, hev, hwd⟩ := plain_at D i k0 hk0
        tm_at "rd"
        refine ⟨_, _, rfl, rfl, hat, ?_⟩
        tm_at "rd"
        refine .inl (q_eq_dat (hdp Hc') hv hsd hsh ?_)
        rw [hev t fun z e => hi ⟨z, e⟩]
        tm_at "rd"
        refine bd (fun c1 => ?_) (fun c1 => ?_)
        · tm_at "rd"
          rw [← hwd t c1]
          exact k _ (Same.refl _)
        · tm_at "rd"
          exact ⟨_, rfl, rfl, by omega⟩
      · rintro σ Hc ⟨o1, rfl, rfl, hle⟩
        have h5 : pidx t = 5 := by
          have : (["t", "f", "u", "n", "F"].map Str.ofString).length = 5 := rfl
          omega
        cases n with
        | zero => have := (szT_le t).2; omega
        | succ m =>
        have eS := hS m rfl
        subst eS
        rcases word_two h5 hi with ⟨a, b, rfl⟩ | ⟨a, b, rfl⟩
        · obtain ⟨p', x, y, e, ht, hx, hy⟩ := tup_inv2 (s := "pair") hv
          cases e
          simp only [depT] at hd
          have z1 := word_len ok.1
          have z2 := word_len ok.2
          have e1 : 2 ^ (depT a - 1) ≤ 2 ^ 12 := Nat.pow_le_pow_right (by decide) (by omega)
          have e2 : 2 ^ (depT b - 1) ≤ 2 ^ 12 := Nat.pow_le_pow_right (by decide) (by omega)
          tm_at "rd"
          refine q_ix_tup ht (v := .str (tx (cs "pair"))) rfl ?_
          tm_at "rdw"
          refine q_ix_tup ht (v := x) rfl ?_
          tm_at "rd"
          refine ⟨x, a, rfl, hx, ok.1, by omega, by omega, fun H1 s1 => ?_⟩
          tm_at "rd"
          refine b_add_tx (by rw [show (cs "p").length = 1 from rfl]; omega) ?_
          tm_at "rd"
          refine q_ix_tup (Same.tup s1 ht) (v := y) rfl ?_
          tm_at "rd"
          refine ⟨y, b, rfl, hy.same s1, ok.2, by omega, by omega, fun H2 s2 => ?_⟩
          refine b_add_tx (by rw [List.length_append, show (cs "p").length = 1 from rfl]; omega) ?_
          exact k _ (s1.trans s2)
        · obtain ⟨p', x, y, e, ht, hx, hy⟩ := tup_inv2 (s := "cons") hv
          cases e
          simp only [depT] at hd
          have z1 := word_len ok.1
          have z2 := word_len ok.2
          have e1 : 2 ^ (depT a - 1) ≤ 2 ^ 12 := Nat.pow_le_pow_right (by decide) (by omega)
          have e2 : 2 ^ (depT b - 1) ≤ 2 ^ 12 := Nat.pow_le_pow_right (by decide) (by omega)
          tm_at "rd"
          refine q_ix_tup ht (v := .str (tx (cs "cons"))) rfl ?_
          tm_at "rdw"
          refine q_ix_tup ht (v := x) rfl ?_
          tm_at "rd"
          refine ⟨x, a, rfl, hx, ok.1, by omega, by omega, fun H1 s1 => ?_⟩
          tm_at "rd"
          refine b_add_tx (by rw [show (cs "c").length = 1 from rfl]; omega) ?_
          tm_at "rd"
          refine q_ix_tup (Same.tup s1 ht) (v := y) rfl ?_
          tm_at "rd"
          refine ⟨y, b, rfl, hy.same s1, ok.2, by omega, by omega, fun H2 s2 => ?_⟩
          refine b_add_tx (by rw [List.length_append, show (cs "c").length = 1 from rfl]; omega) ?_
          exact k _ (s1.trans s2)
theorem ok_word_of (T : Tx K mg) (D : Td K mg w) : ∀ n : Nat, FnOk P w K mg base CX0 (2 + n) T.f_word_of T.fd_word_of ["telling"] (sp_word K n)
  | 0 => word_step T D 0 spNo ok_no fun m e => absurd e (by omega)
  | n + 1 => word_step T D (n + 1) (sp_word K n) (by have := ok_word_of T D n; rwa [show 2 + n = 1 + (n + 1) by omega] at this) fun m e => by cases e; rfl
end
end K68

set_option maxHeartbeats 4000000
/-! W68f: numbers, sums, words read. -/
namespace K68
open PySem PySem.Spec PyProof.Rows L2 TL Ak Kd Jn
local macro_rules | `(tactic| tm_at "rd1") => `(tactic| with_reducible first
  | refine r_seq ?_ | refine r_ifS ?_ | refine r_ret ?_ | refine r_asg ?_ | refine r_next ?_ | refine r_drop ?_ | refine r_par ?_ | refine r_brk ?_ | refine r_cont ?_
  | refine r_op ?_ | refine r_c ?_ | refine r_cb ?_ | refine r_cons ?_ | refine r_nil ?_ | refine r_un ?_ | refine r_tB ?_ | refine r_test ?_ | refine r_not ?_ | refine r_and ?_ | refine r_or ?_ | refine r_andV ?_ | refine r_orV ?_ | refine r_notV ?_ | refine r_if ?_ | refine r_chain ?_
  | refine r_tup ?_ | refine r_lst ?_ | refine r_lstN ?_ | refine r_sl ?_ | refine r_part ?_ | refine r_nopart ?_ | refine r_call ?_ | refine r_callK ?_ | refine r_bm ?_ | refine r_bm0 ?_ | refine r_m1 ?_ | refine r_m0 ?_ | refine r_isN ?_ | refine r_notN ?_
  | refine r_gcons ?_ | refine r_gnil ?_ | refine r_gsub ?_ | refine r_name ?_ | refine r_ilist ?_ | refine r_itup ?_ | refine r_istr ?_ | refine r_irng1 ?_ | refine r_ienum ?_ | refine r_mko ?_ | refine r_yes ?_ | refine r_lc ?_ | refine r_for ?_ | refine turn_i ?_
  | refine r_dput ?_ | refine r_dget ?_ | refine r_izipA ?_ | refine r_ienumT ?_ | refine r_back ?_ | refine r_dsetd ?_ | refine r_dgetN ?_ | refine r_dnotinN ?_ | refine r_isTr ?_ | refine r_lockAsg ?_ | refine r_bl ?_ | refine r_int ?_ | refine r_two ?_ | refine r_str ?_ | refine r_two1 ?_
  | refine b_t ?_ | refine b_f ?_ | refine b_nt ?_ | refine b_nf ?_ | refine q_u ?_ | refine q_i0 ?_ | refine q_ipI ?_ | refine b_add_int ?_ | refine b_eq_int ?_ | refine b_ne_int ?_ | refine b_eq_tx ?_ | refine b_ne_tx ?_ | refine b_in_sg ?_ | refine q_ni_sg ?_)
local macro_rules | `(tactic| tm_at "rd2") => `(tactic| first
  | tm_at "rd1" | refine r_var rfl ?_ | refine r_aug rfl ?_ 
  | refine And.intro (small_n (by simp)) ?_ | tm_at "rdl" | tm_at "rdk")
local macro_rules | `(tactic| tm_at "rdk") => `(tactic| with_reducible first | refine b_isStrV ?_ | refine b_isBlV ?_ | refine b_isIntV ?_ | refine b_isIntB ?_ | refine b_isTupS (by assumption) ?_ | refine b_isTup (by assumption) ?_ | refine b_isInt (by assumption) ?_ | refine b_isBl (by assumption) ?_ | refine b_isStr (by assumption) ?_ | refine b_isLst (by assumption) ?_)
local macro_rules | `(tactic| tm_at "rdl") => `(tactic| first | (with_reducible refine q_len_tx (by assumption) ?_) | (with_reducible refine q_len_tx (by omega) ?_) | (with_reducible refine q_lenB_tx (by assumption) ?_) | (with_reducible refine q_lenB_tx (by omega) ?_))
local macro_rules | `(tactic| tm_at "rd") => `(tactic| repeat tm_at "rd2")
local macro_rules | `(tactic| tm_at "rdw") => `(tactic| repeat (first | tm_at "rd2" | with_reducible refine bd_t rfl ?_ | with_reducible refine bd_f (by decide) ?_ | with_reducible refine bnd_f rfl ?_ | with_reducible refine bnd_t (by decide) ?_))

def numBy (l : List Nat) : Option Nat := if (l = [] ∨ 12 < l.length) ∨ ¬ (l.all Kd.isDig = true) then none else if numL (NumText.digitsVal l) = l then some (NumText.digitsVal l) else none
def optV : Option Nat → V
  | none => .non
  | some n => .int n
theorem numBy_num {n : Nat} (h : n < 10 ^ 12) : numBy (numL n) = some n := by
  have h1 := numL_len (k := 12) (by decide) h
  have h2 : (numL n).all Kd.isDig = true := by
    rw [List.all_eq_true]
    intro c hc
    have := num_dig hc
    simp only [Kd.isDig, Bool.and_eq_true, decide_eq_true_eq]
    omega
  unfold numBy
  rw [if_neg (by rw [h2]; simp [numL_ne]; omega), numL_val, if_pos rfl]
theorem digs_of {l : List Nat} (h : l.all Kd.isDig = true) : NumText.AllDigits l := fun c hc => by
  have := List.all_eq_true.mp h c hc
  simp only [Kd.isDig, Bool.and_eq_true, decide_eq_true_eq] at this
  omega
theorem dig_nat {n : Nat} : numI (n : Int) = numL n := by
  unfold numI
  rw [if_neg (by omega)]
  rfl
theorem digs_lt : ∀ (l : List Nat) (s : Nat), (∀ c ∈ l, 48 ≤ c ∧ c ≤ 57) → l.foldl (fun t c => t * 10 + (c - 48)) s < (s + 1) * 10 ^ l.length
  | [], s, _ => by simp
  | c :: l, s, h => by
    have h1 := h c List.mem_cons_self
    have h2 := digs_lt l (s * 10 + (c - 48)) fun x hx => h x (List.mem_cons_of_mem _ hx)
    have h3 : (s * 10 + (c - 48) + 1) * 10 ^ l.length ≤ ((s + 1) * 10) * 10 ^ l.length := Nat.mul_le_mul_right _ (by omega)
    simp only [List.foldl_cons, List.length_cons, Nat.pow_succ]
    rw [show (s + 1) * (10 ^ l.length * 10) = ((s + 1) * 10) * 10 ^ l.length by rw [Nat.mul_assoc, Nat.mul_comm 10 (10 ^ l.length)]]
    omega
theorem sums_succ {l : List Nat} {i c : Nat} (h : l[i]? = some c) : sums (l.take (i + 1)) = stepN (sums (l.take i)) c := by
  unfold sums
  rw [List.take_add_one, h]
  simp
theorem step_cast (a c : Nat) : (((a + c) % 9973 : Nat) : Int) = ((a : Int) + (c : Int)) % 9973 := by omega
section
variable {P : Program} {w : World} {K : PySem.W.Frag} {mg : Str → Option Value} {base : Heap}
def sp_number_by : Sp := fun vs H Q _ => ∃ l : List Nat, vs = [.str (tx l)] ∧ l.length ≤ 20000 ∧ ∀ H', Same H H' → Q (optV (numBy l)) H'
theorem ok_number_by (T : Tx K mg) : FnOk P w K mg base CX0 1 T.f_number_by T.fd_number_by ["text"] sp_number_by := by
  refine T.d_number_by.F.ok sc_number_by (fun vs H Q E h => ?_) (fun cdv A outer s H vs Q E hr h => ?_)
  · obtain ⟨l, rfl, _⟩ := h
    rfl
  · obtain ⟨l, rfl, hl, k⟩ := h
    have hu := hu_of hr
    have hu64 := hr.units
    refine ⟨_, (pss_cons (ps_if (PW.pt (pw_or (pt_cmpR (opEqB (K := K) rfl hu64) (pv 0) (pe_lit "") (nomark _)) (pw_or (pt_cmpR op_gt (pe_callB (caLenB (K := K) rfl) (by rfl) T.n_len (by decide +kernel) (pa_cons (pv 0) pa_nil)) pe_int (nomark _)) (pw_or1 (pt_not (pt_val (pe_callB (caAll (K := K) rfl rfl) (by rfl) T.n_all (by decide +kernel) (pa_cons (pe_lc (own := [("sign", 1)]) (g := gName 1) rfl sc_number_by.nd (pi_str (pv 0)) (blkOk_by (own := [("sign", 1)]) (N := nm_number_by) (sc := defScope s_number_by) (by decide +kernel)) (fun _ _ _ _ _ => pg_name (i := 1) sc_number_by.nd rfl (Or.inl rfl)) (fun _ _ _ _ _ => pts_nil) (fun _ _ _ _ _ => (pe_cmpR (opInB (K := K) rfl hu64) (pv 1) (pe_lit "0123456789") (by rfl)))) pa_nil)))))))) (pss_one (ps_ret pe_non)) pss_nil)
      (pss_one (ps_ret (pe_ifExp (pt_cmpR (opEqB (K := K) rfl hu64) (pe_callTy call_str_int (by rfl) T.n_str (by decide +kernel) (pa_cons (pe_callTy L2.call_int_str (by rfl) T.n_int (by decide +kernel) (pa_cons (pv 0) pa_nil)) pa_nil)) (pv 0) (nomark _)) (pe_callTy L2.call_int_str (by rfl) T.n_int (by decide +kernel) (pa_cons (pv 0) pa_nil)) pe_non)))), ?_⟩
    tm_at "rd"
    refine bd (fun c1 => ?_) (fun c1 => ?_)
    · tm_at "rd"
      have c1' : l = [] := c1
      unfold numBy at k
      rw [if_pos (.inl (.inl c1'))] at k
      exact k _ (Same.refl _)
    · have c1' : l ≠ [] := c1
      tm_at "rd"
      refine bd (fun c2 => ?_) (fun c2 => ?_)
      · tm_at "rd"
        unfold numBy at k
        rw [if_pos (.inl (.inr (by omega)))] at k
        exact k _ (Same.refl _)
      · tm_at "rd"
        intro D hD
        refine lc_txt (fun _ => true) (fun x => .bl (decide (x ∈ cs "0123456789"))) (by rw [len_tx]; exact Nat.lt_of_le_of_lt hl (by decide)) (fun x _ H2 Q2 s2 q => q) (fun x _ _ H2 Q2 s2 q => ?_) hD ?_
        · tm_at "rd"
          exact q
        · refine ⟨D, l.map fun x => decide (x ∈ cs "0123456789"), rfl, SqL.of (by rw [upd_same, filt_all, List.map_map]; rfl), ?_⟩
          have e2 : (l.map fun x => decide (x ∈ cs "0123456789")).all id = l.all Kd.isDig := by
            rw [List.all_map]
            congr 1
            funext c
            exact mem_digits c
          rw [e2]
          have s1 := same_new (o := HO.lst (((tl (tx l)).filter fun _ => true).map fun x => V.bl (decide (x ∈ cs "0123456789")))) hD
          have ef : ((tl (tx l)).filter fun _ => true) = l := filt_all l
          generalize upd H D (HO.lst (((tl (tx l)).filter fun _ => true).map fun x => V.bl (decide (x ∈ cs "0123456789")))) = H1 at s1
          clear ef
          cases c3 : l.all Kd.isDig with
          | false =>
            unfold numBy at k
            rw [if_pos (.inr (by rw [c3]; decide))] at k
            tm_at "rd"
            exact k _ s1
          | true =>
            have hd := digs_of c3
            have hl2 : l.length ≤ 12 := by omega
            have hv := digs_lt l 0 hd
            have hp : 10 ^ l.length ≤ 10 ^ 12 := Nat.pow_le_pow_right (by decide) hl2
            have e12 : (10 : Nat) ^ 12 < 2 ^ 40 := by decide
            have hv2 : NumText.digitsVal l < 2 ^ 40 := by
              have : NumText.digitsVal l = l.foldl (fun t c => t * 10 + (c - 48)) 0 := rfl
              omega
            unfold numBy at k
            rw [if_neg (by rw [c3]; simp [c1']; omega)] at k
            tm_at "rd"
            refine ⟨tx l, _, rfl, int_of_digits hd c1' (by omega), by rw [len_tx]; omega, ?_⟩
            tm_at "rd"
            refine ⟨_, rfl, log_le (n := 40) (by rw [Int.natAbs_natCast]; exact hv2) (by decide), ?_⟩
            rw [num_tx, dig_nat]
            tm_at "rd"
            refine bd (fun c4 => ?_) (fun c4 => ?_)
            · rw [if_pos c4] at k
              tm_at "rd"
              refine ⟨tx l, _, rfl, int_of_digits hd c1' (by omega), by rw [len_tx]; omega, ?_⟩
              exact k _ s1
            · rw [if_neg c4] at k
              tm_at "rd"
              exact k _ s1
def sp_sum : Sp := fun vs H Q _ => ∃ l : List Nat, vs = [.str (tx l)] ∧ l.length ≤ 90000 ∧ ∀ H', Same H H' → Q (.int (Jn.sum l : Nat)) H'
theorem ok_sum_of_signs (T : Tx K mg) : FnOk P w K mg base CX0 1 T.f_sum_of_signs T.fd_sum_of_signs ["text"] sp_sum := by
  refine T.d_sum_of_signs.F.ok sc_sum_of_signs (fun vs H Q E h => ?_) (fun cdv A outer s H vs Q E hr h => ?_)
  · obtain ⟨l, rfl, _⟩ := h
    rfl
  · obtain ⟨l, rfl, hl, k⟩ := h
    have hu := hu_of hr
    have hu64 := hr.units
    refine ⟨_, (pss_cons (ps_asg (pe_tup (pa_cons pe_int (pa_cons pe_int pa_nil))) (pg_tup rfl (pgs_cons (pg_name (i := 1) sc_sum_of_signs.nd rfl (Or.inl rfl)) (pgs_cons (pg_name (i := 2) sc_sum_of_signs.nd rfl (Or.inl rfl)) pgs_nil))))
      (pss_cons (ps_for PassesOwn.never rfl (pi_str (pv 0)) (pg_name (i := 3) sc_sum_of_signs.nd rfl (Or.inl rfl)) (pss_cons (ps_set (i := 1) sc_sum_of_signs.nd rfl (Or.inl rfl) (pe_op op_mod (pe_op (opAddB (K := K) rfl) (pv 1) (pe_callB call_ord (by rfl) T.n_ord (by decide +kernel) (pa_cons (pv 3) pa_nil))) (pe_const T.c_UNDER (by rfl))))
      (pss_one (ps_set (i := 2) sc_sum_of_signs.nd rfl (Or.inl rfl) (pe_op op_mod (pe_op (opAddB (K := K) rfl) (pv 2) (pv 1)) (pe_const T.c_UNDER (by rfl)))))))
      (pss_one (ps_ret (pe_op (opAddB (K := K) rfl) (pe_op opMul (pv 2) (pe_const T.c_UNDER (by rfl))) (pv 1)))))), ?_⟩
    tm_at "rd"
    intro q0 hq0
    have s0 := same_new (o := .tup [.int 1, .int 0]) hq0
    refine r_gtup (SqT.of upd_same) rfl ?_
    generalize upd H q0 (.tup [.int 1, .int 0]) = H1 at s0
    tm_at "rd"
    refine for_it (walk_str (z := tx l)) (fun i σ Hc => ∃ o3, σ = [some (.str (tx l)), some (.int ((sums (l.take i)).1 : Nat)), some (.int ((sums (l.take i)).2 : Nat)), o3] ∧ Hc = H1) ⟨none, rfl, rfl⟩ (fun _ _ _ _ _ => trivial) ?_ ?_
    · rintro i x σ Hc Hc' hi ⟨o3, rfl, rfl⟩ ⟨rfl, c, hc, rfl⟩
      have hc' : l[i]? = some c := by
        have e : (tx l).cps[i]? = l[i]? := by show l.toArray[i]? = _; simp
        rw [← e]; exact hc
      rw [sums_succ hc']
      generalize sums (l.take i) = st
      obtain ⟨sa, sb⟩ := st
      tm_at "rd"
      refine ⟨_, rfl, rfl, ?_⟩
      have eg : (⟨#[c]⟩ : Str).cps.getD 0 0 = c := rfl
      rw [eg]
      tm_at "rd"
      refine q_rI (show (0 : Int) < 9973 by decide) ?_
      rw [← step_cast]
      tm_at "rd"
      refine q_rI (show (0 : Int) < 9973 by decide) ?_
      rw [← step_cast]
      exact ⟨_, rfl, rfl⟩
    · rintro σ Hc ⟨o3, rfl, rfl⟩
      have ez : l.take (tx l).cps.size = l := List.take_of_length_le (Nat.le_of_eq (by simp))
      rw [ez]
      tm_at "rd"
      have hb := fold_one l (1, 0) (by decide) (by decide)
      have e64 : (9973 : Int) < 2 ^ 64 := by decide
      have hb2 : (sums l).2 < 9973 := hb.2.2
      refine q_mulI (Int.lt_of_lt_of_le (by decide) (Int.natCast_nonneg _)) (by omega) ?_
      tm_at "rd"
      have ee : ((Jn.sum l : Nat) : Int) = ((sums l).2 : Int) * 9973 + ((sums l).1 : Int) := by
        unfold Jn.sum
        simp
      rw [← ee]
      exact k _ s0
def sp_int_from (K : PySem.W.Frag) : Sp := fun vs H Q _ => ∃ (a r : List Nat) (z : Int), vs = [.str (tx (a ++ (numI z ++ 59 :: r))), .int (a.length : Nat)] ∧ -2147483648 ≤ z ∧ z ≤ 2147483647 ∧ a.length + r.length ≤ 90000 ∧
  ∀ H' p, Same H H' → H' p = some (.tup [.int z, .int ((a.length + (numI z).length + 1 : Nat) : Int)]) → Q (.ref p) H'
theorem ok_int_from (T : Tx K mg) : FnOk P w K mg base CX0 3 T.f_int_from T.fd_int_from ["text", "at"] (sp_int_from K) := by
  have G_is_int := ok_is_int (P := P) (w := w) (base := base) T
  have b_is_int := T.d_is_int.F.binds (ps := ["value"]) fun _ _ _ _ _ _ us hl => match us, hl with | [_], _ => rfl
  refine T.d_int_from.F.ok sc_int_from (fun vs H Q E h => ?_) (fun cdv A outer s H vs Q E hr h => ?_)
  · obtain ⟨a, r, z, rfl, _⟩ := h
    rfl
  · obtain ⟨a, r, z, rfl, h1, h2, hl, k⟩ := h
    have hu := hu_of hr
    have hu64 := hr.units
    refine ⟨_, (pss_cons (ps_set (i := 2) sc_int_from.nd rfl (Or.inl rfl) (pe_bm PySem.F.plainAttrs_str PySem.F.slot_str_find PySem.F.type_str_find mt_find3 (pv 0) (pa_cons (pe_lit ";") (pa_cons (pv 1) pa_nil))))
      (pss_cons (ps_set (i := 3) sc_int_from.nd rfl (Or.inl rfl) (pe_ifExp (pt_cmpR op_ge (pv 2) pe_int (nomark _)) (pe_slice (slB (K := K) rfl) (pv 0) (po_some (pv 1)) (po_some (pv 2))) (pe_lit "")))
      (pss_cons (ps_set (i := 4) sc_int_from.nd rfl (Or.inl rfl) (pe_ifExp (pt_cmpR (opEqB (K := K) rfl hu64) (pe_slice (slB (K := K) rfl) (pv 3) po_none (po_some pe_int)) (pe_lit "-") (nomark _)) (pe_slice (slB (K := K) rfl) (pv 3) (po_some pe_int) po_none) (pv 3)))
      (pss_cons (ps_if (PW.pt (pw_or (pt_cmpR (opEqB (K := K) rfl hu64) (pv 4) (pe_lit "") (nomark _)) (pw_or (pt_not (pt_val (pe_callB (caAll (K := K) rfl rfl) (by rfl) T.n_all (by decide +kernel) (pa_cons (pe_lc (own := [("sign", 6)]) (g := gName 6) rfl sc_int_from.nd (pi_str (pv 4)) (blkOk_by (own := [("sign", 6)]) (N := nm_int_from) (sc := defScope s_int_from) (by decide +kernel)) (fun _ _ _ _ _ => pg_name (i := 6) sc_int_from.nd rfl (Or.inl rfl)) (fun _ _ _ _ _ => pts_nil) (fun _ _ _ _ _ => (pe_cmpR (opInB (K := K) rfl hu64) (pv 6) (pe_lit "0123456789") (by rfl)))) pa_nil)))) (pw_or1 (pt_cmpR op_gt (pe_callB (caLenB (K := K) rfl) (by rfl) T.n_len (by decide +kernel) (pa_cons (pv 4) pa_nil)) pe_int (nomark _)))))) (pss_one (ps_ret pe_non)) pss_nil)
      (pss_cons (ps_set (i := 5) sc_int_from.nd rfl (Or.inl rfl) (pe_callTy L2.call_int_str (by rfl) T.n_int (by decide +kernel) (pa_cons (pv 3) pa_nil)))
      (pss_one (ps_ret (pe_ifExp (PW.pt (pw_and (pt_cmpR (opEqB (K := K) rfl hu64) (pe_callTy call_str_int (by rfl) T.n_str (by decide +kernel) (pa_cons (pv 5) pa_nil)) (pv 3) (nomark _)) (pw_and1 (pt_val (pe_call G_is_int (hr.mono (by first | decide | omega)) rfl T.d_is_int.g T.d_is_int.F.kp b_is_int .nil pass0 (pa_cons (pv 5) pa_nil)))))) (pe_tup (pa_cons (pv 5) (pa_cons (pe_op (opAddB (K := K) rfl) (pv 2) pe_int) pa_nil))) pe_non)))))))), ?_⟩
    have hn := numI_len h1 h2
    have h59 : 59 ∉ numI z := fun h => by
      unfold numI at h
      split at h
      · rcases List.mem_cons.mp h with h | h
        · omega
        · have := num_dig h; omega
      · have := num_dig h; omega
    have hll : (a ++ (numI z ++ 59 :: r)).length ≤ 100000 := by simp only [List.length_append, List.length_cons]; omega
    tm_at "rd"
    refine ⟨rfl, ?_⟩
    tm_at "rd"
    refine ⟨_, _, _, rfl, rfl, ?_⟩
    rw [show tx (cs ";") = (⟨#[59]⟩ : Str) from rfl, find_at h59]
    have e1 : ((a.length + (numI z).length : Nat) : Int) ≥ 0 := by omega
    tm_at "rd"
    refine bd_t (by omega) ?_
    tm_at "rd"
    refine b_cut_tx hll ?_
    have ed : ((a ++ (numI z ++ 59 :: r)).drop a.length).take (a.length + (numI z).length - a.length) = numI z := by
      rw [List.drop_left, Nat.add_sub_cancel_left, List.take_left]
    rw [ed]
    have hz1 : (numI z).length ≤ 100000 := by omega
    tm_at "rd"
    refine b_front_tx (i := 1) hz1 ?_
    tm_at "rd"
    by_cases hz : z < 0
    · have eI : numI z = 45 :: numL z.natAbs := by unfold numI; rw [if_pos hz]
      refine bd_t (by rw [eI]; rfl) ?_
      tm_at "rd"
      refine b_tail_tx (i := 1) hz1 ?_
      have hbd : ∀ c ∈ (numI z).drop 1, 48 ≤ c ∧ c ≤ 57 := fun c hc => by rw [eI] at hc; exact num_dig hc
      have hbn : (numI z).drop 1 ≠ [] := by rw [eI]; exact numL_ne _
      have hbl : ((numI z).drop 1).length ≤ 10 := by rw [List.length_drop]; omega
      tm_at "rd"
      refine bd_f (show ¬ ((numI z).drop 1) = cs "" from hbn) ?_
      tm_at "rd"
      intro D hD
      refine lc_txt (fun _ => true) (fun x => .bl (decide (x ∈ cs "0123456789"))) (by rw [len_tx]; exact Nat.lt_of_le_of_lt (by omega : ((numI z).drop 1).length ≤ 100000) (by decide)) (fun x _ H2 Q2 s2 q => q) (fun x _ _ H2 Q2 s2 q => ?_) hD ?_
      · tm_at "rd"
        exact q
      refine ⟨D, ((numI z).drop 1).map fun x => decide (x ∈ cs "0123456789"), rfl, SqL.of (by rw [upd_same, filt_all, List.map_map]; rfl), ?_⟩
      have e2 : (((numI z).drop 1).map fun x => decide (x ∈ cs "0123456789")).all id = true := by
        rw [List.all_map, List.all_eq_true]
        intro c hc
        have := hbd c hc
        show decide (c ∈ cs "0123456789") = true
        rw [mem_digits]
        simp only [Kd.isDig, Bool.and_eq_true, decide_eq_true_eq]
        omega
      rw [e2]
      have s1 := same_new (o := HO.lst (((tl (tx ((numI z).drop 1))).filter fun _ => true).map fun x => V.bl (decide (x ∈ cs "0123456789")))) hD
      generalize upd H D (HO.lst (((tl (tx ((numI z).drop 1))).filter fun _ => true).map fun x => V.bl (decide (x ∈ cs "0123456789")))) = H1 at s1
      have hbl1 : ((numI z).drop 1).length ≤ 100000 := by omega
      tm_at "rd"
      refine bd_f (by omega) ?_
      tm_at "rd"
      refine ⟨tx (numI z), z, rfl, int_of_num (by omega), by rw [len_tx]; omega, ?_⟩
      tm_at "rd"
      have e31 : (2 : Nat) ^ 32 = 4294967296 := by decide
      refine ⟨z, rfl, log_le (n := 32) (by omega) (by decide), ?_⟩
      rw [num_tx]
      tm_at "rd"
      refine bd_t rfl ?_
      tm_at "rd"
      refine ⟨z, rfl, h1, h2, fun H2 s2 => ?_⟩
      tm_at "rd"
      intro p hp
      have s3 := same_new (o := .tup [.int z, .int (((a.length + (numI z).length : Nat) : Int) + 1)]) hp
      exact k _ p ((s1.trans s2).trans s3) (by rw [upd_same]; simp)
    · have eI : numI z = numL z.natAbs := by unfold numI; rw [if_neg hz]
      have hbd : ∀ c ∈ numI z, 48 ≤ c ∧ c ≤ 57 := fun c hc => by rw [eI] at hc; exact num_dig hc
      have hbn : numI z ≠ [] := by rw [eI]; exact numL_ne _
      have hbl : (numI z).length ≤ 10 := by
        have e10 : (10:Nat) ^ 10 = 10000000000 := by decide
        rw [eI]
        exact numL_len (by decide) (by omega)
      refine bd_f (fun e => ?_) ?_
      · cases en : numI z with
        | nil => exact hbn en
        | cons c t =>
          rw [en] at e
          have e' : c = 45 := by
            have : [c] = [45] := e
            exact (List.cons.inj this).1
          have := hbd c (by rw [en]; exact List.mem_cons_self)
          omega
      tm_at "rd"
      refine bd_f (show ¬ (numI z) = cs "" from hbn) ?_
      tm_at "rd"
      intro D hD
      refine lc_txt (fun _ => true) (fun x => .bl (decide (x ∈ cs "0123456789"))) (by rw [len_tx]; exact Nat.lt_of_le_of_lt (by omega : (numI z).length ≤ 100000) (by decide)) (fun x _ H2 Q2 s2 q => q) (fun x _ _ H2 Q2 s2 q => ?_) hD ?_
      · tm_at "rd"
        exact q
      refine ⟨D, (numI z).map fun x => decide (x ∈ cs "0123456789"), rfl, SqL.of (by rw [upd_same, filt_all, List.map_map]; rfl), ?_⟩
      have e2 : ((numI z).map fun x => decide (x ∈ cs "0123456789")).all id = true := by
        rw [List.all_map, List.all_eq_true]
        intro c hc
        have := hbd c hc
        show decide (c ∈ cs "0123456789") = true
        rw [mem_digits]
        simp only [Kd.isDig, Bool.and_eq_true, decide_eq_true_eq]
        omega
      rw [e2]
      have s1 := same_new (o := HO.lst (((tl (tx (numI z))).filter fun _ => true).map fun x => V.bl (decide (x ∈ cs "0123456789")))) hD
      generalize upd H D (HO.lst (((tl (tx (numI z))).filter fun _ => true).map fun x => V.bl (decide (x ∈ cs "0123456789")))) = H1 at s1
      have hbl1 : (numI z).length ≤ 100000 := by omega
      tm_at "rd"
      refine bd_f (by omega) ?_
      tm_at "rd"
      refine ⟨tx (numI z), z, rfl, int_of_num (by omega), by rw [len_tx]; omega, ?_⟩
      tm_at "rd"
      have e31 : (2 : Nat) ^ 32 = 4294967296 := by decide
      refine ⟨z, rfl, log_le (n := 32) (by omega) (by decide), ?_⟩
      rw [num_tx]
      tm_at "rd"
      refine bd_t rfl ?_
      tm_at "rd"
      refine ⟨z, rfl, h1, h2, fun H2 s2 => ?_⟩
      tm_at "rd"
      intro p hp
      have s3 := same_new (o := .tup [.int z, .int (((a.length + (numI z).length : Nat) : Int) + 1)]) hp
      exact k _ p ((s1.trans s2).trans s3) (by rw [upd_same]; simp)
end
end K68

set_option maxHeartbeats 4000000
/-! W68g: words of tellings, read. -/
namespace K68
open PySem PySem.Spec PyProof.Rows L2 TL Ak Kd Jn
local macro_rules | `(tactic| tm_at "rd1") => `(tactic| with_reducible first
  | refine r_seq ?_ | refine r_ifS ?_ | refine r_ret ?_ | refine r_asg ?_ | refine r_next ?_ | refine r_drop ?_ | refine r_par ?_ | refine r_brk ?_ | refine r_cont ?_
  | refine r_op ?_ | refine r_c ?_ | refine r_cb ?_ | refine r_cons ?_ | refine r_nil ?_ | refine r_un ?_ | refine r_tB ?_ | refine r_test ?_ | refine r_not ?_ | refine r_and ?_ | refine r_or ?_ | refine r_andV ?_ | refine r_orV ?_ | refine r_notV ?_ | refine r_if ?_ | refine r_chain ?_
  | refine r_tup ?_ | refine r_lst ?_ | refine r_lstN ?_ | refine r_sl ?_ | refine r_part ?_ | refine r_nopart ?_ | refine r_call ?_ | refine r_callK ?_ | refine r_bm ?_ | refine r_bm0 ?_ | refine r_m1 ?_ | refine r_m0 ?_ | refine r_isN ?_ | refine r_notN ?_
  | refine r_gcons ?_ | refine r_gnil ?_ | refine r_gsub ?_ | refine r_name ?_ | refine r_ilist ?_ | refine r_itup ?_ | refine r_istr ?_ | refine r_irng1 ?_ | refine r_ienum ?_ | refine r_mko ?_ | refine r_yes ?_ | refine r_lc ?_ | refine r_for ?_ | refine turn_i ?_
  | refine r_dput ?_ | refine r_dget ?_ | refine r_izipA ?_ | refine r_ienumT ?_ | refine r_back ?_ | refine r_dsetd ?_ | refine r_dgetN ?_ | refine r_dnotinN ?_ | refine r_isTr ?_ | refine r_lockAsg ?_ | refine r_bl ?_ | refine r_int ?_ | refine r_two ?_ | refine r_str ?_ | refine r_two1 ?_
  | refine b_t ?_ | refine b_f ?_ | refine b_nt ?_ | refine b_nf ?_ | refine q_u ?_ | refine q_i0 ?_ | refine q_ipI ?_ | refine b_add_int ?_ | refine b_eq_int ?_ | refine b_ne_int ?_ | refine b_eq_tx ?_ | refine b_ne_tx ?_ | refine b_in_sg ?_ | refine q_ni_sg ?_)
local macro_rules | `(tactic| tm_at "rd2") => `(tactic| first
  | tm_at "rd1" | refine r_var rfl ?_ | refine r_aug rfl ?_ 
  | refine And.intro (small_n (by simp)) ?_ | tm_at "rdl" | tm_at "rdk")
local macro_rules | `(tactic| tm_at "rdk") => `(tactic| with_reducible first | refine b_isStrV ?_ | refine b_isBlV ?_ | refine b_isIntV ?_ | refine b_isIntB ?_ | refine b_isTupS (by assumption) ?_ | refine b_isTup (by assumption) ?_ | refine b_isInt (by assumption) ?_ | refine b_isBl (by assumption) ?_ | refine b_isStr (by assumption) ?_ | refine b_isLst (by assumption) ?_)
local macro_rules | `(tactic| tm_at "rdl") => `(tactic| first | (with_reducible refine q_len_tx (by assumption) ?_) | (with_reducible refine q_len_tx (by omega) ?_) | (with_reducible refine q_lenB_tx (by assumption) ?_) | (with_reducible refine q_lenB_tx (by omega) ?_))
local macro_rules | `(tactic| tm_at "rd") => `(tactic| repeat tm_at "rd2")
local macro_rules | `(tactic| tm_at "rdw") => `(tactic| repeat (first | tm_at "rd2" | with_reducible refine bd_t rfl ?_ | with_reducible refine bd_f (by decide) ?_ | with_reducible refine bnd_f rfl ?_ | with_reducible refine bnd_t (by decide) ?_))

theorem vs3 {l l' : List Nat} {i i' d d' : Int} (h1 : l = l') (h2 : i = i') (h3 : d = d') : [V.str (tx l), .int i, .int d] = [V.str (tx l'), .int i', .int d'] := by subst h1 h2 h3; rfl
theorem vs2 {l l' : List Nat} {i i' : Int} (h1 : l = l') (h2 : i = i') : [V.str (tx l), .int i] = [V.str (tx l'), .int i'] := by subst h1 h2; rfl
theorem one_at (a b : List Nat) (c : Nat) : ((a ++ c :: b).drop a.length).take (a.length + 1 - a.length) = [c] := by
  rw [List.drop_left, Nat.add_sub_cancel_left]
  rfl
section
variable {P : Program} {w : World} {K : PySem.W.Frag} {mg : Str → Option Value} {base : Heap}
theorem ok_no3 {CX : CXT} {f : Addr} {fd : FuncData} {ps : List Str} {k : Nat} : FnOk P w K mg base CX k f fd ps spNo := ⟨fun _ _ _ _ h => h.elim, fun _ _ _ _ _ _ _ _ _ _ _ _ _ h => h.elim⟩
def sp_tfrom (K : PySem.W.Frag) (n : Nat) : Sp := fun vs H Q _ => ∃ (a r : List Nat) (t : Tl) (dp : Nat), vs = [.str (tx (a ++ (word t ++ r))), .int (a.length : Nat), .int (dp : Nat)] ∧ OkT t ∧ depT t ≤ n ∧ depT t ≤ dp ∧ n ≤ 12 ∧ a.length + r.length + (word t).length ≤ 80000 ∧
  ∀ H' p v, Same H H' → H' p = some (.tup [v, .int ((a.length + (word t).length : Nat) : Int)]) → Tv K H' v t → Q (.ref p) H'
theorem tfrom_step (T : Tx K mg) (D : Td K mg w) (n : Nat) (spS : Sp) (G_telling_from : FnOk P w K mg base CX0 (3 + n) T.f_telling_from T.fd_telling_from ["text", "at", "deep"] spS) (hS : ∀ m, n = m + 1 → spS = sp_tfrom K m) : FnOk P w K mg base CX0 (4 + n) T.f_telling_from T.fd_telling_from ["text", "at", "deep"] (sp_tfrom K n) := by
  have G_int_from := ok_int_from (P := P) (w := w) (base := base) T
  have b_int_from := T.d_int_from.F.binds (ps := ["text", "at"]) fun _ _ _ _ _ _ us hl => match us, hl with | [_, _], _ => rfl
  have b_telling_from := T.d_telling_from.F.binds (ps := ["text", "at", "deep"]) fun _ _ _ _ _ _ us hl => match us, hl with | [_, _, _], _ => rfl
  rw [show 4 + n = 3 + n + 1 by omega]
  refine T.d_telling_from.F.ok sc_telling_from (fun vs H Q E h => ?_) (fun cdv A outer s H vs Q E hr h => ?_)
  · obtain ⟨a, r, t, dp, rfl, _⟩ := h
    rfl
  · obtain ⟨a, r, t, dp, rfl, ok, hd, hdp, hn, hl, k⟩ := h
    have hu := hu_of hr
    have hu64 := hr.units
    refine ⟨_, (pss_cons (ps_set (i := 3) sc_telling_from.nd rfl (Or.inl rfl) (pe_slice (slB (K := K) rfl) (pv 0) (po_some (pv 1)) (po_some (pe_op (opAddB (K := K) rfl) (pv 1) pe_int))))
      (pss_cons (ps_if (pt_cmpR (opEqB (K := K) rfl hu64) (pv 2) pe_int (nomark _)) (pss_one (ps_ret pe_non)) pss_nil)
      (pss_cons (ps_if (pt_cmpR (opInKD D.k_PLAIN rfl rfl) (pv 3) (pe_const D.c_PLAIN (by rfl)) (by rfl)) (pss_one (ps_ret (pe_tup (pa_cons (pe_ix (ixKD D.k_PLAIN rfl rfl) (pe_const D.c_PLAIN (by rfl)) (pv 3) (fun _ _ => rfl)) (pa_cons (pe_op (opAddB (K := K) rfl) (pv 1) pe_int) pa_nil))))) pss_nil)
      (pss_cons (ps_if (pt_cmpR (opEqB (K := K) rfl hu64) (pv 3) (pe_lit "i") (nomark _)) (pss_cons (ps_set (i := 4) sc_telling_from.nd rfl (Or.inl rfl) (pe_call G_int_from (hr.mono (by first | decide | omega)) rfl T.d_int_from.g T.d_int_from.F.kp b_int_from .nil pass0 (pa_cons (pv 0) (pa_cons (pe_op (opAddB (K := K) rfl) (pv 1) pe_int) pa_nil))))
      (pss_one (ps_ret (pe_ifExp (pt_cmp (pc_isN (pv 4)) rfl) pe_non (pe_tup (pa_cons (pe_tup (pa_cons (pe_lit "int") (pa_cons (pe_ix (ixAny (K := K) rfl) (pv 4) pe_int (fun _ _ => rfl)) pa_nil))) (pa_cons (pe_ix (ixAny (K := K) rfl) (pv 4) pe_int (fun _ _ => rfl)) pa_nil))))))) pss_nil)
      (pss_cons (ps_if (pt_cmpR (opNiKD D.k_DOUBLE rfl rfl) (pv 3) (pe_const D.c_DOUBLE (by rfl)) (by rfl)) (pss_one (ps_ret pe_non)) pss_nil)
      (pss_cons (ps_set (i := 5) sc_telling_from.nd rfl (Or.inl rfl) (pe_call G_telling_from (hr.mono (by first | decide | omega)) rfl T.d_telling_from.g T.d_telling_from.F.kp b_telling_from .nil pass0 (pa_cons (pv 0) (pa_cons (pe_op (opAddB (K := K) rfl) (pv 1) pe_int) (pa_cons (pe_op op_sub (pv 2) pe_int) pa_nil)))))
      (pss_cons (ps_set (i := 6) sc_telling_from.nd rfl (Or.inl rfl) (pe_ifExp (pt_cmp (pc_isN (pv 5)) rfl) pe_non (pe_call G_telling_from (hr.mono (by first | decide | omega)) rfl T.d_telling_from.g T.d_telling_from.F.kp b_telling_from .nil pass0 (pa_cons (pv 0) (pa_cons (pe_ix (ixAny (K := K) rfl) (pv 5) pe_int (fun _ _ => rfl)) (pa_cons (pe_op op_sub (pv 2) pe_int) pa_nil))))))
      (pss_one (ps_ret (pe_ifExp (pt_cmp (pc_isN (pv 6)) rfl) pe_non (pe_tup (pa_cons (pe_tup (pa_cons (pe_ix (ixKD D.k_DOUBLE rfl rfl) (pe_const D.c_DOUBLE (by rfl)) (pv 3) (fun _ _ => rfl)) (pa_cons (pe_ix (ixAny (K := K) rfl) (pv 5) pe_int (fun _ _ => rfl)) (pa_cons (pe_ix (ixAny (K := K) rfl) (pv 6) pe_int (fun _ _ => rfl)) pa_nil)))) (pa_cons (pe_ix (ixAny (K := K) rfl) (pv 6) pe_int (fun _ _ => rfl)) pa_nil))))))))))))), ?_⟩
    have hll : (a ++ (word t ++ r)).length ≤ 100000 := by simp only [List.length_append]; omega
    have hpos := (szT_le t).2
    tm_at "rd"
    rw [show ((a.length : Nat) : Int) + 1 = ((a.length + 1 : Nat) : Int) by omega]
    refine b_cut_tx hll ?_
    cases t with
    | int z =>
      have hn1 := numI_len ok.1 ok.2
      have hwl : (word (.int z)).length = (numI z).length + 2 := by simp [word]
      rw [show a ++ (word (.int z) ++ r) = a ++ 105 :: (numI z ++ 59 :: r) by simp [word], one_at]
      tm_at "rd"
      refine bd_f (by omega) ?_
      tm_at "rd"
      refine ⟨_, rfl, rfl, .inr ⟨D.no_PLAIN_i, ?_⟩⟩
      tm_at "rd"
      refine bd_t rfl ?_
      tm_at "rd"
      refine ⟨a ++ [105], r, z, vs2 (by simp) (by simp), ok.1, ok.2, by simp only [List.length_append, List.length_cons, List.length_nil]; omega, fun H1 p1 s1 h1 => ?_⟩
      tm_at "rd"
      refine bd_f (fun e => by cases e) ?_
      tm_at "rd"
      refine q_ix_tup (SqT.of h1) (v := .int z) rfl ?_
      tm_at "rd"
      intro p2 hp2
      have s2 := same_new (o := .tup [.str (tx (cs "int")), .int z]) hp2
      have h2 := s2 _ _ h1
      tm_at "rd"
      refine q_ix_tup (SqT.of h2) (v := .int (((a ++ [105]).length + (numI z).length + 1 : Nat) : Int)) rfl ?_
      tm_at "rd"
      intro p3 hp3
      have s3 := same_new (o := .tup [.ref p2, .int (((a ++ [105]).length + (numI z).length + 1 : Nat) : Int)]) hp3
      refine k _ p3 (.ref p2) ((s1.trans s2).trans s3) ?_ (.tup (SqT.of (s3 _ _ upd_same)) (.cons (.str _) (.cons (.int _) .nil)))
      have e9 : (a ++ [105]).length + (numI z).length + 1 = a.length + ((numI z).length + 2) := by simp only [List.length_append, List.length_cons, List.length_nil]; omega
      rw [upd_same, hwl, e9]
    | tt =>
      rw [show a ++ (word .tt ++ r) = a ++ 116 :: r by simp [word], one_at]
      tm_at "rd"
      refine bd_f (by omega) ?_
      tm_at "rd"
      refine ⟨_, rfl, rfl, .inl ⟨_, D.PLAIN_t, ?_⟩⟩
      tm_at "rd"
      refine ⟨_, _, rfl, rfl, D.PLAIN_t, ?_⟩
      tm_at "rd"
      intro p hp
      have s1 := same_new (o := .tup [.ref D.a_PLAIN_t, .int ((a.length : Int) + 1)]) hp
      refine k _ p (.ref D.a_PLAIN_t) s1 ?_ (.tup (D.t_PLAIN_t _) (.cons (.str _) (.cons (.bl _) .nil)))
      rw [upd_same, show (word .tt).length = 1 from rfl]
      simp
    | uu =>
      rw [show a ++ (word .uu ++ r) = a ++ 117 :: r by simp [word], one_at]
      tm_at "rd"
      refine bd_f (by omega) ?_
      tm_at "rd"
      refine ⟨_, rfl, rfl, .inl ⟨_, D.PLAIN_u, ?_⟩⟩
      tm_at "rd"
      refine ⟨_, _, rfl, rfl, D.PLAIN_u, ?_⟩
      tm_at "rd"
      intro p hp
      have s1 := same_new (o := .tup [.ref D.a_PLAIN_u, .int ((a.length : Int) + 1)]) hp
      refine k _ p (.ref D.a_PLAIN_u) s1 ?_ (.tup (D.t_PLAIN_u _) (.cons (.str _) .nil))
      rw [upd_same, show (word .uu).length = 1 from rfl]
      simp
    | nn =>
      rw [show a ++ (word .nn ++ r) = a ++ 110 :: r by simp [word], one_at]
      tm_at "rd"
      refine bd_f (by omega) ?_
      tm_at "rd"
      refine ⟨_, rfl, rfl, .inl ⟨_, D.PLAIN_n, ?_⟩⟩
      tm_at "rd"
      refine ⟨_, _, rfl, rfl, D.PLAIN_n, ?_⟩
      tm_at "rd"
      intro p hp
      have s1 := same_new (o := .tup [.ref D.a_PLAIN_n, .int ((a.length : Int) + 1)]) hp
      refine k _ p (.ref D.a_PLAIN_n) s1 ?_ (.tup (D.t_PLAIN_n _) (.cons (.str _) .nil))
      rw [upd_same, show (word .nn).length = 1 from rfl]
      simp
    | pr x y =>
      simp only [depT] at hd hdp
      have hwl : (word (.pr x y)).length = (word x).length + (word y).length + 1 := by simp [word]
      cases n with
      | zero => omega
      | succ m =>
      have eS := hS m rfl
      subst eS
      rw [show a ++ (word (.pr x y) ++ r) = a ++ 112 :: (word x ++ (word y ++ r)) by simp [word], one_at]
      tm_at "rd"
      refine bd_f (by omega) ?_
      tm_at "rd"
      refine ⟨_, rfl, rfl, .inr ⟨D.no_PLAIN_p, ?_⟩⟩
      tm_at "rdw"
      refine ⟨_, rfl, rfl, .inl ⟨_, D.DOUBLE_p, ?_⟩⟩
      tm_at "rd"
      refine ⟨a ++ [112], word y ++ r, x, dp - 1, vs3 (by simp) (by simp) (by omega), ok.1, by omega, by omega, by omega, by simp only [List.length_append, List.length_cons, List.length_nil]; omega, fun H1 p1 v1 s1 h1 hv1 => ?_⟩
      tm_at "rd"
      refine bd_f (fun e => by cases e) ?_
      tm_at "rd"
      refine q_ix_tup (SqT.of h1) (v := .int (((a ++ [112]).length + (word x).length : Nat) : Int)) rfl ?_
      tm_at "rd"
      refine ⟨a ++ 112 :: word x, r, y, dp - 1, vs3 (by simp) (by simp; omega) (by omega), ok.2, by omega, by omega, by omega, by simp only [List.length_append, List.length_cons, List.length_nil]; omega, fun H2 p2 v2 s2 h2 hv2 => ?_⟩
      tm_at "rd"
      refine bd_f (fun e => by cases e) ?_
      tm_at "rd"
      refine ⟨_, _, rfl, rfl, D.DOUBLE_p, ?_⟩
      tm_at "rd"
      have h1b := s2 _ _ h1
      refine q_ix_tup (SqT.of h1b) (v := v1) rfl ?_
      tm_at "rd"
      refine q_ix_tup (SqT.of h2) (v := v2) rfl ?_
      tm_at "rd"
      intro p3 hp3
      have s3 := same_new (o := .tup [.str (tx (cs "pair")), v1, v2]) hp3
      have h2b := s3 _ _ h2
      tm_at "rd"
      refine q_ix_tup (SqT.of h2b) (v := .int (((a ++ 112 :: word x).length + (word y).length : Nat) : Int)) rfl ?_
      tm_at "rd"
      intro p4 hp4
      have s4 := same_new (o := .tup [.ref p3, .int (((a ++ 112 :: word x).length + (word y).length : Nat) : Int)]) hp4
      refine k _ p4 (.ref p3) (((s1.trans s2).trans s3).trans s4) ?_ (.tup (SqT.of (s4 _ _ upd_same)) (.cons (.str _) (.cons (((hv1.same s2).same s3).same s4) (.cons ((hv2.same s3).same s4) .nil))))
      rw [upd_same, hwl, show (a ++ 112 :: word x).length + (word y).length = a.length + ((word x).length + (word y).length + 1) by simp only [List.length_append, List.length_cons]; omega]
    | cn x y =>
      simp only [depT] at hd hdp
      have hwl : (word (.cn x y)).length = (word x).length + (word y).length + 1 := by simp [word]
      cases n with
      | zero => omega
      | succ m =>
      have eS := hS m rfl
      subst eS
      rw [show a ++ (word (.cn x y) ++ r) = a ++ 99 :: (word x ++ (word y ++ r)) by simp [word], one_at]
      tm_at "rd"
      refine bd_f (by omega) ?_
      tm_at "rd"
      refine ⟨_, rfl, rfl, .inr ⟨D.no_PLAIN_c, ?_⟩⟩
      tm_at "rdw"
      refine ⟨_, rfl, rfl, .inl ⟨_, D.DOUBLE_c, ?_⟩⟩
      tm_at "rd"
      refine ⟨a ++ [99], word y ++ r, x, dp - 1, vs3 (by simp) (by simp) (by omega), ok.1, by omega, by omega, by omega, by simp only [List.length_append, List.length_cons, List.length_nil]; omega, fun H1 p1 v1 s1 h1 hv1 => ?_⟩
      tm_at "rd"
      refine bd_f (fun e => by cases e) ?_
      tm_at "rd"
      refine q_ix_tup (SqT.of h1) (v := .int (((a ++ [99]).length + (word x).length : Nat) : Int)) rfl ?_
      tm_at "rd"
      refine ⟨a ++ 99 :: word x, r, y, dp - 1, vs3 (by simp) (by simp; omega) (by omega), ok.2, by omega, by omega, by omega, by simp only [List.length_append, List.length_cons, List.length_nil]; omega, fun H2 p2 v2 s2 h2 hv2 => ?_⟩
      tm_at "rd"
      refine bd_f (fun e => by cases e) ?_
      tm_at "rd"
      refine ⟨_, _, rfl, rfl, D.DOUBLE_c, ?_⟩
      tm_at "rd"
      have h1b := s2 _ _ h1
      refine q_ix_tup (SqT.of h1b) (v := v1) rfl ?_
      tm_at "rd"
      refine q_ix_tup (SqT.of h2) (v := v2) rfl ?_
      tm_at "rd"
      intro p3 hp3
      have s3 := same_new (o := .tup [.str (tx (cs "cons")), v1, v2]) hp3
      have h2b := s3 _ _ h2
      tm_at "rd"
      refine q_ix_tup (SqT.of h2b) (v := .int (((a ++ 99 :: word x).length + (word y).length : Nat) : Int)) rfl ?_
      tm_at "rd"
      intro p4 hp4
      have s4 := same_new (o := .tup [.ref p3, .int (((a ++ 99 :: word x).length + (word y).length : Nat) : Int)]) hp4
      refine k _ p4 (.ref p3) (((s1.trans s2).trans s3).trans s4) ?_ (.tup (SqT.of (s4 _ _ upd_same)) (.cons (.str _) (.cons (((hv1.same s2).same s3).same s4) (.cons ((hv2.same s3).same s4) .nil))))
      rw [upd_same, hwl, show (a ++ 99 :: word x).length + (word y).length = a.length + ((word x).length + (word y).length + 1) by simp only [List.length_append, List.length_cons]; omega]
theorem ok_telling_from (T : Tx K mg) (D : Td K mg w) : ∀ n : Nat, FnOk P w K mg base CX0 (4 + n) T.f_telling_from T.fd_telling_from ["text", "at", "deep"] (sp_tfrom K n)
  | 0 => tfrom_step T D 0 spNo ok_no3 fun m e => absurd e (by omega)
  | n + 1 => tfrom_step T D (n + 1) (sp_tfrom K n) (by have := ok_telling_from T D n; rwa [show 4 + n = 3 + (n + 1) by omega] at this) fun m e => by cases e; rfl
def sp_tby (K : PySem.W.Frag) : Sp := fun vs H Q _ => ∃ (t : Tl), vs = [.str (tx (word t))] ∧ OkT t ∧ depT t ≤ 10 ∧ (word t).length ≤ 70000 ∧ ∀ H' v, Same H H' → Tv K H' v t → Q v H'
theorem ok_telling_by (T : Tx K mg) (D : Td K mg w) : FnOk P w K mg base CX0 15 T.f_telling_by T.fd_telling_by ["text"] (sp_tby K) := by
  have G_telling_from := ok_telling_from (P := P) (w := w) (base := base) T D 10
  have b_telling_from := T.d_telling_from.F.binds (ps := ["text", "at", "deep"]) fun _ _ _ _ _ _ us hl => match us, hl with | [_, _, _], _ => rfl
  refine T.d_telling_by.F.ok sc_telling_by (fun vs H Q E h => ?_) (fun cdv A outer s H vs Q E hr h => ?_)
  · obtain ⟨t, rfl, _⟩ := h
    rfl
  · obtain ⟨t, rfl, ok, hd, hl, k⟩ := h
    have hu := hu_of hr
    have hu64 := hr.units
    refine ⟨_, (pss_cons (ps_set (i := 1) sc_telling_by.nd rfl (Or.inl rfl) (pe_call G_telling_from (hr.mono (by first | decide | omega)) rfl T.d_telling_from.g T.d_telling_from.F.kp b_telling_from .nil pass0 (pa_cons (pv 0) (pa_cons pe_int (pa_cons (pe_const T.c_MOST_DEEP (by rfl)) pa_nil)))))
      (pss_one (ps_ret (pe_ifExp (PW.pt (pw_and (pt_cmp (pc_notN (pv 1)) rfl) (pw_and1 (pt_cmpR (opEqB (K := K) rfl hu64) (pe_ix (ixAny (K := K) rfl) (pv 1) pe_int (fun _ _ => rfl)) (pe_callB (caLenB (K := K) rfl) (by rfl) T.n_len (by decide +kernel) (pa_cons (pv 0) pa_nil)) (nomark _))))) (pe_ix (ixAny (K := K) rfl) (pv 1) pe_int (fun _ _ => rfl)) pe_non)))), ?_⟩
    tm_at "rd"
    refine ⟨[], [], t, 150, vs3 (by simp) rfl rfl, ok, hd, by omega, by omega, by simp; omega, fun H1 p v s1 h1 hv => ?_⟩
    tm_at "rd"
    refine bnd_t (fun e => by cases e) ?_
    tm_at "rd"
    refine q_ix_tup (SqT.of h1) (v := .int (([] : List Nat).length + (word t).length : Nat)) rfl ?_
    have hl1 : (word t).length ≤ 100000 := by omega
    tm_at "rd"
    refine bd_t (by simp) ?_
    tm_at "rd"
    refine q_ix_tup (SqT.of h1) (v := v) rfl ?_
    exact k _ v s1 hv
end
end K68

set_option maxHeartbeats 4000000
/-! W68h: records. -/
namespace K68
open PySem PySem.Spec PyProof.Rows L2 TL Ak Kd Jn
local macro_rules | `(tactic| tm_at "rd1") => `(tactic| with_reducible first
  | refine r_seq ?_ | refine r_ifS ?_ | refine r_ret ?_ | refine r_asg ?_ | refine r_next ?_ | refine r_drop ?_ | refine r_par ?_ | refine r_brk ?_ | refine r_cont ?_
  | refine r_op ?_ | refine r_c ?_ | refine r_cb ?_ | refine r_cons ?_ | refine r_nil ?_ | refine r_un ?_ | refine r_tB ?_ | refine r_test ?_ | refine r_not ?_ | refine r_and ?_ | refine r_or ?_ | refine r_andV ?_ | refine r_orV ?_ | refine r_notV ?_ | refine r_if ?_ | refine r_chain ?_
  | refine r_tup ?_ | refine r_lst ?_ | refine r_lstN ?_ | refine r_sl ?_ | refine r_part ?_ | refine r_nopart ?_ | refine r_call ?_ | refine r_callK ?_ | refine r_bm ?_ | refine r_bm0 ?_ | refine r_m1 ?_ | refine r_m0 ?_ | refine r_isN ?_ | refine r_notN ?_
  | refine r_gcons ?_ | refine r_gnil ?_ | refine r_gsub ?_ | refine r_name ?_ | refine r_ilist ?_ | refine r_itup ?_ | refine r_istr ?_ | refine r_irng1 ?_ | refine r_ienum ?_ | refine r_mko ?_ | refine r_yes ?_ | refine r_lc ?_ | refine r_for ?_ | refine turn_i ?_
  | refine r_dput ?_ | refine r_dget ?_ | refine r_izipA ?_ | refine r_ienumT ?_ | refine r_back ?_ | refine r_dsetd ?_ | refine r_dgetN ?_ | refine r_dnotinN ?_ | refine r_isTr ?_ | refine r_lockAsg ?_ | refine r_bl ?_ | refine r_int ?_ | refine r_two ?_ | refine r_str ?_ | refine r_two1 ?_
  | refine b_t ?_ | refine b_f ?_ | refine b_nt ?_ | refine b_nf ?_ | refine q_u ?_ | refine q_i0 ?_ | refine q_ipI ?_ | refine b_add_int ?_ | refine b_eq_int ?_ | refine b_ne_int ?_ | refine b_eq_tx ?_ | refine b_ne_tx ?_ | refine b_in_sg ?_ | refine q_ni_sg ?_)
local macro_rules | `(tactic| tm_at "rd2") => `(tactic| first
  | tm_at "rd1" | refine r_var rfl ?_ | refine r_aug rfl ?_ 
  | refine And.intro (small_n (by simp)) ?_ | tm_at "rdl" | tm_at "rdk")
local macro_rules | `(tactic| tm_at "rdk") => `(tactic| with_reducible first | refine b_isStrV ?_ | refine b_isBlV ?_ | refine b_isIntV ?_ | refine b_isIntB ?_ | refine b_isTupS (by assumption) ?_ | refine b_isTup (by assumption) ?_ | refine b_isInt (by assumption) ?_ | refine b_isBl (by assumption) ?_ | refine b_isStr (by assumption) ?_ | refine b_isLst (by assumption) ?_)
local macro_rules | `(tactic| tm_at "rdl") => `(tactic| first | (with_reducible refine q_len_tx (by assumption) ?_) | (with_reducible refine q_len_tx (by omega) ?_) | (with_reducible refine q_lenB_tx (by assumption) ?_) | (with_reducible refine q_lenB_tx (by omega) ?_))
local macro_rules | `(tactic| tm_at "rd") => `(tactic| repeat tm_at "rd2")
local macro_rules | `(tactic| tm_at "rdw") => `(tactic| repeat (first | tm_at "rd2" | with_reducible refine bd_t rfl ?_ | with_reducible refine bd_f (by decide) ?_ | with_reducible refine bnd_f rfl ?_ | with_reducible refine bnd_t (by decide) ?_))

def wordR : Rec → List Nat
  | .begun _ => cs "begun"
  | .kept _ _ => cs "kept"
  | .asked _ _ => cs "asked"
  | .answered _ => cs "answered"
def partsR : Rec → List PyData
  | .begun n => [.int (n : Nat)]
  | .kept a b => [.int (a : Nat), .int (b : Nat)]
  | .asked nm t => [.str (tx nm), tlD t]
  | .answered t => [tlD t]
def recD (r : Rec) : PyData := .tuple (.str (tx (wordR r)) :: partsR r)
theorem rec_only (r : Rec) : tupOnly (recD r) = true := by cases r <;> simp only [recD, partsR, tupOnly, tupOnlyAll, tlD_only] <;> rfl
theorem recs_only : ∀ rs : List Rec, tupOnlyAll (rs.map recD) = true
  | [] => rfl
  | t :: ts => by simp only [List.map_cons, tupOnlyAll, rec_only, recs_only ts]; rfl
abbrev Rv (K : PySem.W.Frag) (H : Hp) (v : V) (r : Rec) : Prop := Dp K H v (recD r)
theorem rv_word {K : PySem.W.Frag} {H : Hp} {v : V} {r : Rec} (h : Rv K H v r) : ∃ p xs, v = .ref p ∧ SqT K H p (.str (tx (wordR r)) :: xs) ∧ DpAll K H xs (partsR r) := by
  obtain ⟨p, xs, rfl, ht, hx⟩ := dp_tup h
  cases hx with
  | cons a b =>
    obtain rfl := dp_str a
    exact ⟨p, _, rfl, ht, b⟩
def kws (rs : List Rec) : List (List Nat) := (rs.map wordR).filter fun w => !decide (w = cs "kept")
def fol (rs : List Rec) (r : Rec) : Bool :=
  if rs = [] then decide (wordR r = cs "begun")
  else if wordR r = cs "begun" ∨ kws rs = [] then false
  else if wordR r = cs "kept" then true
  else if wordR r = cs "answered" then decide ((kws rs).getLast? = some (cs "asked"))
  else ([cs "begun", cs "answered"] : List (List Nat)).contains ((kws rs).getLast?.getD [])
theorem kws_range (rs : List Rec) : (List.range rs.length).filterMap (fun j => match rs[j]? with | some r => if wordR r = cs "kept" then none else some (V.str (tx (wordR r))) | none => none) = (kws rs).map fun w => V.str (tx w) := by
  have gen : ∀ (l : List Rec), (List.range l.length).filterMap (fun j => match l[j]? with | some r => if wordR r = cs "kept" then none else some (V.str (tx (wordR r))) | none => none) = l.filterMap (fun r => if wordR r = cs "kept" then none else some (V.str (tx (wordR r)))) := by
    intro l
    induction l with
    | nil => rfl
    | cons r l ih =>
      rw [List.length_cons, List.range_succ_eq_map, List.filterMap_cons, List.filterMap_map, List.filterMap_cons]
      have e : (fun j => match (r :: l)[j]? with | some r => if wordR r = cs "kept" then none else some (V.str (tx (wordR r))) | none => none) ∘ Nat.succ = fun j => match l[j]? with | some r => if wordR r = cs "kept" then none else some (V.str (tx (wordR r))) | none => none := by
        funext j
        simp
      rw [e, ih]
      rfl
  rw [gen]
  unfold kws
  induction rs with
  | nil => rfl
  | cons r l ih =>
    rw [List.filterMap_cons, List.map_cons, List.filter_cons]
    by_cases h : wordR r = cs "kept"
    · simp only [h, if_pos, decide_true, Bool.not_true, Bool.false_eq_true, if_false]
      exact ih
    · simp only [if_neg h, decide_eq_false h, Bool.not_false, if_true, List.map_cons]
      rw [ih]
section
variable {P : Program} {w : World} {K : PySem.W.Frag} {mg : Str → Option Value} {base : Heap}
def sp_rowS (K : PySem.W.Frag) : Sp := fun vs H Q _ => ∃ (p : Addr) (xs : List V) (n : Nat), vs = [.ref p, .int (n : Nat)] ∧ SqT K H p xs ∧ ∀ H', Same H H' → Q (.bl (decide (xs.length = n))) H'
theorem ok_is_rowS (T : Tx K mg) : FnOk P w K mg base CX0 1 T.f_is_row T.fd_is_row ["value", "many"] (sp_rowS K) := by
  refine T.d_is_row.F.ok sc_is_row (fun vs H Q E h => ?_) (fun cdv A outer s H vs Q E hr h => ?_)
  · obtain ⟨p, xs, n, rfl, _⟩ := h
    rfl
  · obtain ⟨p, xs, n, rfl, ht, k⟩ := h
    have hu := hu_of hr
    have hu64 := hr.units
    refine ⟨_, (pss_one (ps_ret (pe_and (pe_callB (caIsB (K := K) rfl) (by rfl) T.n_isinstance (by decide +kernel) (pa_cons (pv 0) (pa_cons (pe_bltn (v := .ty "tuple") (u := .type "tuple") (by rfl) T.n_tuple (by decide +kernel) rfl) pa_nil))) (pe_one (pe_cmpR (opEqB (K := K) rfl hu64) (pe_callB (caLenB (K := K) rfl) (by rfl) T.n_len (by decide +kernel) (pa_cons (pv 0) pa_nil)) (pv 1) (nomark _)))))), ?_⟩
    tm_at "rd"
    refine q_lenB_tup ht ?_
    tm_at "rd"
    have e2 : decide ((xs.length : Int) = (n : Int)) = decide (xs.length = n) := decide_eq_decide.mpr ⟨fun h => by omega, fun h => by omega⟩
    rw [e2]
    exact k _ (Same.refl _)
/-- a record, or begun or kept with other numbers -/
def sp_isrec (K : PySem.W.Frag) : Sp := fun vs H Q _ => ∃ (v : V), vs = [v] ∧ ((∃ r, Rv K H v r ∧ OkR r ∧ ∀ H', Same H H' → Q (.bl true) H') ∨
  ∃ p xs wd, v = .ref p ∧ SqT K H p (.str (tx wd) :: xs) ∧ ((wd = cs "begun" ∧ xs.length ≠ 1) ∨ (wd = cs "kept" ∧ xs.length ≠ 2)) ∧ ∀ H', Same H H' → Q (.bl false) H')
theorem ok_is_record_of (T : Tx K mg) (D : Td K mg w) : FnOk P w K mg base CX0 7 T.f_is_record_of T.fd_is_record_of ["value"] (sp_isrec K) := by
  have G_is_row := ok_is_rowS (P := P) (w := w) (base := base) T
  have G_is_number := ok_is_number (P := P) (w := w) (base := base) T D
  have G_is_ask_name := ok_is_ask_name (P := P) (w := w) (base := base) T
  have G_is_telling_of := ok_is_telling_of (P := P) (w := w) (base := base) T D
  have G_is_data_of := ok_is_data_of (P := P) (w := w) (base := base) T D
  have b_is_row := T.d_is_row.F.binds (ps := ["value", "many"]) fun _ _ _ _ _ _ us hl => match us, hl with | [_, _], _ => rfl
  have b_is_number := T.d_is_number.F.binds (ps := ["value"]) fun _ _ _ _ _ _ us hl => match us, hl with | [_], _ => rfl
  have b_is_ask_name := T.d_is_ask_name.F.binds (ps := ["value"]) fun _ _ _ _ _ _ us hl => match us, hl with | [_], _ => rfl
  have b_is_telling_of := T.d_is_telling_of.F.binds (ps := ["value"]) fun _ _ _ _ _ _ us hl => match us, hl with | [_], _ => rfl
  have b_is_data_of := T.d_is_data_of.F.binds (ps := ["value"]) fun _ _ _ _ _ _ us hl => match us, hl with | [_], _ => rfl
  refine T.d_is_record_of.F.ok sc_is_record_of (fun vs H Q E h => ?_) (fun cdv A outer s H vs Q E hr h => ?_)
  · obtain ⟨v, rfl, _⟩ := h
    rfl
  · obtain ⟨v, rfl, h⟩ := h
    have hu := hu_of hr
    have hu64 := hr.units
    refine ⟨_, (pss_cons (ps_if (PW.pt (pw_or (pt_not (pt_val (pe_callB (caIsB (K := K) rfl) (by rfl) T.n_isinstance (by decide +kernel) (pa_cons (pv 0) (pa_cons (pe_bltn (v := .ty "tuple") (u := .type "tuple") (by rfl) T.n_tuple (by decide +kernel) rfl) pa_nil))))) (pw_or (pt_cmpR (opEqB (K := K) rfl hu64) (pv 0) (pe_tup pa_nil) (nomark _)) (pw_or1 (pt_not (pt_val (pe_callB (caIsB (K := K) rfl) (by rfl) T.n_isinstance (by decide +kernel) (pa_cons (pe_ix (ixAny (K := K) rfl) (pv 0) pe_int (fun _ _ => rfl)) (pa_cons (pe_bltn (v := .ty "str") (u := .type "str") (by rfl) T.n_str (by decide +kernel) rfl) pa_nil))))))))) (pss_one (ps_ret pe_bl)) pss_nil)
      (pss_cons (ps_if (pt_cmpR (opEqB (K := K) rfl hu64) (pe_ix (ixAny (K := K) rfl) (pv 0) pe_int (fun _ _ => rfl)) (pe_const T.c_BEGUN (by rfl)) (nomark _)) (pss_one (ps_ret (pe_and (pe_call G_is_row (hr.mono (by first | decide | omega)) rfl T.d_is_row.g T.d_is_row.F.kp b_is_row .nil pass0 (pa_cons (pv 0) (pa_cons pe_int pa_nil))) (pe_one (pe_call G_is_number (hr.mono (by first | decide | omega)) rfl T.d_is_number.g T.d_is_number.F.kp b_is_number .nil pass0 (pa_cons (pe_ix (ixAny (K := K) rfl) (pv 0) pe_int (fun _ _ => rfl)) pa_nil)))))) pss_nil)
      (pss_cons (ps_if (pt_cmpR (opEqB (K := K) rfl hu64) (pe_ix (ixAny (K := K) rfl) (pv 0) pe_int (fun _ _ => rfl)) (pe_const T.c_ASKED (by rfl)) (nomark _)) (pss_one (ps_ret (pe_and (pe_call G_is_row (hr.mono (by first | decide | omega)) rfl T.d_is_row.g T.d_is_row.F.kp b_is_row .nil pass0 (pa_cons (pv 0) (pa_cons pe_int pa_nil))) (pe_and (pe_call G_is_ask_name (hr.mono (by first | decide | omega)) rfl T.d_is_ask_name.g T.d_is_ask_name.F.kp b_is_ask_name .nil pass0 (pa_cons (pe_ix (ixAny (K := K) rfl) (pv 0) pe_int (fun _ _ => rfl)) pa_nil)) (pe_one (pe_call G_is_telling_of (hr.mono (by first | decide | omega)) rfl T.d_is_telling_of.g T.d_is_telling_of.F.kp b_is_telling_of .nil pass0 (pa_cons (pe_ix (ixAny (K := K) rfl) (pv 0) pe_int (fun _ _ => rfl)) pa_nil))))))) pss_nil)
      (pss_cons (ps_if (pt_cmpR (opEqB (K := K) rfl hu64) (pe_ix (ixAny (K := K) rfl) (pv 0) pe_int (fun _ _ => rfl)) (pe_const T.c_ANSWERED (by rfl)) (nomark _)) (pss_one (ps_ret (pe_and (pe_call G_is_row (hr.mono (by first | decide | omega)) rfl T.d_is_row.g T.d_is_row.F.kp b_is_row .nil pass0 (pa_cons (pv 0) (pa_cons pe_int pa_nil))) (pe_one (pe_call G_is_data_of (hr.mono (by first | decide | omega)) rfl T.d_is_data_of.g T.d_is_data_of.F.kp b_is_data_of .nil pass0 (pa_cons (pe_ix (ixAny (K := K) rfl) (pv 0) pe_int (fun _ _ => rfl)) pa_nil)))))) pss_nil)
      (pss_cons (ps_if (pt_cmpR (opEqB (K := K) rfl hu64) (pe_ix (ixAny (K := K) rfl) (pv 0) pe_int (fun _ _ => rfl)) (pe_const T.c_KEPT (by rfl)) (nomark _)) (pss_one (ps_ret (pe_and (pe_call G_is_row (hr.mono (by first | decide | omega)) rfl T.d_is_row.g T.d_is_row.F.kp b_is_row .nil pass0 (pa_cons (pv 0) (pa_cons pe_int pa_nil))) (pe_and (pe_call G_is_number (hr.mono (by first | decide | omega)) rfl T.d_is_number.g T.d_is_number.F.kp b_is_number .nil pass0 (pa_cons (pe_ix (ixAny (K := K) rfl) (pv 0) pe_int (fun _ _ => rfl)) pa_nil)) (pe_one (pe_call G_is_number (hr.mono (by first | decide | omega)) rfl T.d_is_number.g T.d_is_number.F.kp b_is_number .nil pass0 (pa_cons (pe_ix (ixAny (K := K) rfl) (pv 0) pe_int (fun _ _ => rfl)) pa_nil))))))) pss_nil)
      (pss_one (ps_ret (pe_and (pe_cmpR (opEqB (K := K) rfl hu64) (pe_ix (ixAny (K := K) rfl) (pv 0) pe_int (fun _ _ => rfl)) (pe_const T.c_ENDED (by rfl)) (nomark _)) (pe_and (pe_call G_is_row (hr.mono (by first | decide | omega)) rfl T.d_is_row.g T.d_is_row.F.kp b_is_row .nil pass0 (pa_cons (pv 0) (pa_cons pe_int pa_nil))) (pe_one (pe_call G_is_telling_of (hr.mono (by first | decide | omega)) rfl T.d_is_telling_of.g T.d_is_telling_of.F.kp b_is_telling_of .nil pass0 (pa_cons (pe_ix (ixAny (K := K) rfl) (pv 0) pe_int (fun _ _ => rfl)) pa_nil)))))))))))), ?_⟩
    obtain ⟨p, xs, wd, rfl, ht⟩ : ∃ p xs wd, v = .ref p ∧ SqT K H p (.str (tx wd) :: xs) := by
      rcases h with ⟨r, hv, _⟩ | ⟨p, xs, wd, e, ht, _⟩
      · obtain ⟨p, xs, e, ht, _⟩ := rv_word hv
        exact ⟨p, xs, _, e, ht⟩
      · exact ⟨p, xs, wd, e, ht⟩
    clear ht
    rcases h with ⟨r, hv, ok, k⟩ | ⟨p', xs, wd, e, ht, hw, k⟩
    · obtain ⟨p', xs, e, ht, hx⟩ := rv_word hv
      cases e
      tm_at "rd"
      intro q1 hq1
      have s1 := same_new (o := .tup []) hq1
      have ht1 := Same.tup s1 ht
      have hx1 := hx.same s1
      refine b_eqE_tup ht1 upd_same ⟨_, rfl, ?_⟩
      generalize upd H q1 (.tup []) = H1 at s1 ht1 hx1
      refine b_f ?_
      tm_at "rd"
      refine q_ix_tup ht1 (at0 _ _) ?_
      tm_at "rd"
      refine q_ix_tup ht1 (at0 _ _) ?_
      tm_at "rd"
      clear ht hx
      cases r with
      | begun n =>
        change SqT K H1 p (.str (tx (cs "begun")) :: _) at ht1
        have okn : n < 10 ^ 12 := ok
        have e12 : (10 : Nat) ^ 12 = 1000000000000 := by decide
        cases hx1 with
        | cons h1 r1 =>
        cases r1
        obtain rfl := dp_int h1
        refine bd_t rfl ?_
        tm_at "rd"
        refine ⟨p, _, 2, rfl, ht1, fun H2 s2 => ?_⟩
        refine ⟨_, rfl, ?_⟩
        refine bd_t rfl ?_
        have ht2 := Same.tup s2 ht1
        tm_at "rd"
        refine q_ix_tup ht2 (v := .int (n : Nat)) rfl ?_
        tm_at "rd"
        exact ⟨n, rfl, by omega, by omega, fun H3 s3 => k _ ((s1.trans s2).trans s3)⟩
      | asked nm t =>
        change SqT K H1 p (.str (tx (cs "asked")) :: _) at ht1
        cases hx1 with
        | cons h1 r1 =>
        cases r1 with
        | cons h2 r2 =>
        cases r2
        obtain rfl := dp_str h1
        have hask : askD (.str (tx nm)) = true := by
          have := ok.1
          simp only [asks, List.mem_cons, List.not_mem_nil, or_false] at this
          rcases this with rfl | rfl | rfl <;> decide
        have hln : nm.length ≤ 10 := by
          have := ok.1
          simp only [asks, List.mem_cons, List.not_mem_nil, or_false] at this
          rcases this with rfl | rfl | rfl <;> decide
        refine bd_f (show ¬ cs "asked" = cs "begun" by decide) ?_
        tm_at "rdw"
        refine q_ix_tup ht1 (at0 _ _) ?_
        tm_at "rdw"
        refine ⟨p, _, 3, rfl, ht1, fun H2 s2 => ?_⟩
        refine ⟨_, rfl, ?_⟩
        refine bd_t rfl ?_
        have ht2 := Same.tup s2 ht1
        tm_at "rd"
        refine q_ix_tup ht2 (v := .str (tx nm)) rfl ?_
        tm_at "rd"
        refine ⟨AT, _, .str (tx nm), rfl, .str _, by simp only [sz, len_tx]; omega, fun H3 s3 => ?_⟩
        rw [hask]
        have ht3 := Same.tup s3 ht2
        tm_at "rd"
        refine q_ix_tup ht3 (v := _) rfl ?_
        tm_at "rd"
        exact ⟨_, t, rfl, (h2.same s2).same s3, ok.2.1, by have := ok.2.2; omega, fun H4 s4 => k _ (((s1.trans s2).trans s3).trans s4)⟩
      | answered t =>
        change SqT K H1 p (.str (tx (cs "answered")) :: _) at ht1
        cases hx1 with
        | cons h1 r1 =>
        cases r1
        refine bd_f (show ¬ cs "answered" = cs "begun" by decide) ?_
        tm_at "rdw"
        refine q_ix_tup ht1 (at0 _ _) ?_
        tm_at "rdw"
        refine q_ix_tup ht1 (at0 _ _) ?_
        tm_at "rdw"
        refine ⟨p, _, 2, rfl, ht1, fun H2 s2 => ?_⟩
        refine ⟨_, rfl, ?_⟩
        refine bd_t rfl ?_
        have ht2 := Same.tup s2 ht1
        tm_at "rd"
        refine q_ix_tup ht2 (v := _) rfl ?_
        tm_at "rd"
        exact ⟨_, t, rfl, h1.same s2, ok.1, by have := ok.2; omega, fun H4 s4 => k _ ((s1.trans s2).trans s4)⟩
      | kept a b =>
        change SqT K H1 p (.str (tx (cs "kept")) :: _) at ht1
        have e12 : (10 : Nat) ^ 12 = 1000000000000 := by decide
        have oka := ok.1
        have okb := ok.2
        cases hx1 with
        | cons h1 r1 =>
        cases r1 with
        | cons h2 r2 =>
        cases r2
        obtain rfl := dp_int h1
        obtain rfl := dp_int h2
        refine bd_f (show ¬ cs "kept" = cs "begun" by decide) ?_
        tm_at "rdw"
        refine q_ix_tup ht1 (at0 _ _) ?_
        tm_at "rdw"
        refine q_ix_tup ht1 (at0 _ _) ?_
        tm_at "rdw"
        refine q_ix_tup ht1 (at0 _ _) ?_
        tm_at "rdw"
        refine ⟨p, _, 3, rfl, ht1, fun H2 s2 => ?_⟩
        refine ⟨_, rfl, ?_⟩
        refine bd_t rfl ?_
        have ht2 := Same.tup s2 ht1
        tm_at "rd"
        refine q_ix_tup ht2 (v := .int (a : Nat)) rfl ?_
        tm_at "rd"
        refine ⟨a, rfl, by omega, by omega, fun H3 s3 => ?_⟩
        have ht3 := Same.tup s3 ht2
        refine ⟨_, rfl, ?_⟩
        tm_at "rd"
        refine q_ix_tup ht3 (v := .int (b : Nat)) rfl ?_
        tm_at "rd"
        exact ⟨b, rfl, by omega, by omega, fun H4 s4 => k _ (((s1.trans s2).trans s3).trans s4)⟩
    · cases e
      tm_at "rd"
      intro q1 hq1
      have s1 := same_new (o := .tup []) hq1
      have ht1 := Same.tup s1 ht
      refine b_eqE_tup ht1 upd_same ⟨_, rfl, ?_⟩
      generalize upd H q1 (.tup []) = H1 at s1 ht1
      refine b_f ?_
      tm_at "rd"
      refine q_ix_tup ht1 (at0 _ _) ?_
      tm_at "rd"
      refine q_ix_tup ht1 (at0 _ _) ?_
      tm_at "rd"
      clear ht
      rcases hw with ⟨rfl, hw⟩ | ⟨rfl, hw⟩
      · refine bd_t rfl ?_
        tm_at "rd"
        refine ⟨p, _, 2, rfl, ht1, fun H2 s2 => ?_⟩
        refine ⟨_, rfl, ?_⟩
        refine bd_f (by simp only [List.length_cons]; omega) ?_
        exact k _ (s1.trans s2)
      · refine bd_f (show ¬ cs "kept" = cs "begun" by decide) ?_
        tm_at "rdw"
        refine q_ix_tup ht1 (at0 _ _) ?_
        tm_at "rdw"
        refine q_ix_tup ht1 (at0 _ _) ?_
        tm_at "rdw"
        refine q_ix_tup ht1 (at0 _ _) ?_
        tm_at "rdw"
        refine ⟨p, _, 3, rfl, ht1, fun H2 s2 => ?_⟩
        refine ⟨_, rfl, ?_⟩
        refine bd_f (by simp only [List.length_cons]; omega) ?_
        exact k _ (s1.trans s2)
def sp_follows (K : PySem.W.Frag) : Sp := fun vs H Q _ => ∃ (l : Addr) (rv : List V) (rs : List Rec) (v : V) (r : Rec), vs = [.ref l, v] ∧ H l = some (.lst rv) ∧ DpAll K H rv (rs.map recD) ∧ Rv K H v r ∧ rv.length ≤ 1000 ∧ ∀ H', Same H H' → Q (.bl (fol rs r)) H'
theorem ok_follows (T : Tx K mg) : FnOk P w K mg base CX0 1 T.f_follows T.fd_follows ["records", "record"] (sp_follows K) := by
  refine T.d_follows.F.ok sc_follows (fun vs H Q E h => ?_) (fun cdv A outer s H vs Q E hr h => ?_)
  · obtain ⟨l, rv, rs, v, r, rfl, _⟩ := h
    rfl
  · obtain ⟨l, rv, rs, v, r, rfl, hL, hA, hv, hz, k⟩ := h
    have hu := hu_of hr
    have hu64 := hr.units
    refine ⟨_, (pss_cons (ps_if (pt_cmpR (opEqB (K := K) rfl hu64) (pv 0) (pe_lst pa_nil) (nomark _)) (pss_one (ps_ret (pe_cmpR (opEqB (K := K) rfl hu64) (pe_ix (ixAny (K := K) rfl) (pv 1) pe_int (fun _ _ => rfl)) (pe_const T.c_BEGUN (by rfl)) (nomark _)))) pss_nil)
      (pss_cons (ps_setLc (i := 2) (own := [("one", 3)]) (g := gName 3) rfl sc_follows.nd rfl rfl (sw_true rfl rfl rfl (by decide +kernel)) (pi_list (pv 0)) (blkOk_by (own := [("one", 3)]) (N := nm_follows) (sc := defScope s_follows) (by decide +kernel)) (fun _ _ _ _ _ => pg_name (i := 3) sc_follows.nd rfl (Or.inl rfl)) (fun _ _ _ _ _ => pts_one (pt_cmpR (opNeB (K := K) rfl hu64) (pe_ix (ixAny (K := K) rfl) (pv 3) pe_int (fun _ _ => rfl)) (pe_const T.c_KEPT (by rfl)) (nomark _))) (fun _ _ _ _ _ => (pe_ix (ixAny (K := K) rfl) (pv 3) pe_int (fun _ _ => rfl))))
      (pss_cons (ps_if (PW.pt (pw_or (pt_cmpR (opEqB (K := K) rfl hu64) (pe_ix (ixAny (K := K) rfl) (pv 1) pe_int (fun _ _ => rfl)) (pe_const T.c_BEGUN (by rfl)) (nomark _)) (pw_or1 (pt_cmpR (opEqB (K := K) rfl hu64) (pv 2) (pe_lst pa_nil) (nomark _))))) (pss_one (ps_ret pe_bl)) pss_nil)
      (pss_cons (ps_if (pt_cmpR (opEqB (K := K) rfl hu64) (pe_ix (ixAny (K := K) rfl) (pv 1) pe_int (fun _ _ => rfl)) (pe_const T.c_KEPT (by rfl)) (nomark _)) (pss_one (ps_ret pe_bl)) pss_nil)
      (pss_cons (ps_if (pt_cmpR (opEqB (K := K) rfl hu64) (pe_ix (ixAny (K := K) rfl) (pv 1) pe_int (fun _ _ => rfl)) (pe_const T.c_ANSWERED (by rfl)) (nomark _)) (pss_one (ps_ret (pe_cmpR (opEqB (K := K) rfl hu64) (pe_ix (ixAny (K := K) rfl) (pv 2) (pe_un un_neg pe_int) (fun _ _ => rfl)) (pe_const T.c_ASKED (by rfl)) (nomark _)))) pss_nil)
      (pss_one (ps_ret (pe_cmpR (opInB (K := K) rfl hu64) (pe_ix (ixAny (K := K) rfl) (pv 2) (pe_un un_neg pe_int) (fun _ _ => rfl)) (pe_tup (pa_cons (pe_const T.c_BEGUN (by rfl)) (pa_cons (pe_const T.c_ANSWERED (by rfl)) pa_nil))) (by rfl))))))))), ?_⟩
    obtain ⟨p, xs, rfl, ht, hx⟩ := rv_word hv
    have hal := hA.length
    rw [List.length_map] at hal
    tm_at "rd"
    intro q1 hq1
    have s1 := same_new (o := .lst []) hq1
    have ht1 := Same.tup s1 ht
    have hL1 := s1 _ _ hL
    have hA1 := hA.same s1
    refine b_eqE_lst (SqL.of hL1) upd_same ⟨_, rfl, ?_⟩
    generalize upd H q1 (.lst []) = H1 at s1 ht1 hL1 hA1
    clear ht hL hA hx hv
    cases rs with
    | nil =>
      have : rv = [] := List.length_eq_zero_iff.mp hal
      subst this
      rw [show ([] : List V).isEmpty = true from rfl]
      tm_at "rd"
      refine q_ix_tup ht1 (at0 _ _) ?_
      tm_at "rd"
      exact k _ s1
    | cons r0 rs =>
    have e0 : rv.isEmpty = false := by cases rv with
      | nil => simp at hal
      | cons a b => rfl
    rw [e0]
    tm_at "rd"
    refine ⟨l, rfl, ⟨_, SqL.of hL1⟩, fun D hD => ?_⟩
    refine lc_genF (walk_list (K := K) (a := l) (xs := rv)) (fun j => match (r0 :: rs)[j]? with | some r => if wordR r = cs "kept" then none else some (V.str (tx (wordR r))) | none => none) (Nat.lt_of_le_of_lt hz (by decide)) (fun H2 s2 => SqL.of (s2 _ _ hL1)) (fun j x H2 H3 _ _ y => by rw [y.1]; exact Same.refl _) (fun j x H2 H3 hj s2 y Q3 R3 q qn => ?_) hD (fun H2 s2 h2 => ?_)
    · obtain ⟨rfl, hx⟩ := y
      obtain ⟨d, hd1, hd2⟩ := dp_at (hA1.same s2) hx
      rw [List.getElem?_map] at hd1
      obtain ⟨rj, ej, rfl⟩ := Option.map_eq_some_iff.mp hd1
      obtain ⟨pj, xj, rfl, htj, _⟩ := rv_word hd2
      simp only [ej] at q qn
      tm_at "rd"
      refine ⟨rfl, ?_⟩
      tm_at "rd"
      refine q_ix_tup htj (at0 _ _) ?_
      tm_at "rd"
      refine bnd (fun c1 => ?_) (fun c1 => ?_)
      · tm_at "rd"
        refine q_ix_tup htj (at0 _ _) ?_
        rw [if_neg c1] at q
        exact q _ rfl _ (Same.refl _)
      · rw [if_pos c1] at qn
        exact qn rfl _ (Same.refl _)
    rw [hal, kws_range] at h2
    have hkl : (kws (r0 :: rs)).length ≤ rv.length := by
      unfold kws
      have := List.length_filter_le (fun w => !decide (w = cs "kept")) ((r0 :: rs).map wordR)
      rw [List.length_map] at this
      omega
    have ht2 := Same.tup s2 ht1
    have s12 := s1.trans s2
    unfold fol at k
    rw [if_neg (by simp)] at k
    generalize kws (r0 :: rs) = kw at h2 k hkl
    tm_at "rd"
    refine q_ix_tup ht2 (at0 _ _) ?_
    tm_at "rd"
    refine bd (fun c1 => ?_) (fun c1 => ?_)
    · rw [if_pos (.inl c1)] at k
      tm_at "rd"
      exact k _ s12
    tm_at "rd"
    intro q2 hq2
    have s3 := same_new (o := .lst []) hq2
    refine b_eqE_lst (SqL.of (s3 _ _ h2)) upd_same ⟨_, rfl, ?_⟩
    have h3 := s3 _ _ h2
    have ht3 := Same.tup s3 ht2
    have s13 := s12.trans s3
    generalize upd H2 q2 (.lst []) = H3 at h3 ht3 s13
    rcases List.eq_nil_or_concat kw with rfl | ⟨kw0, wl, rfl⟩
    · rw [if_pos (.inr rfl)] at k
      rw [show (([] : List (List Nat)).map fun w => V.str (tx w)).isEmpty = true from rfl]
      tm_at "rd"
      exact k _ s13
    rw [List.concat_eq_append] at *
    rw [if_neg (fun h => h.elim c1 (by simp)), List.getLast?_concat] at k
    rw [List.map_append] at h3
    rw [show ((kw0 ++ [wl]).map fun w => V.str (tx w)).isEmpty = false by simp]
    have hlast : atI (kw0.map (fun w => V.str (tx w)) ++ [wl].map fun w => V.str (tx w)) (-1) = some (V.str (tx wl)) := atI_last _ _
    tm_at "rd"
    refine q_ix_tup ht3 (at0 _ _) ?_
    tm_at "rd"
    refine bd (fun c2 => ?_) (fun c2 => ?_)
    · rw [if_pos c2] at k
      tm_at "rd"
      exact k _ s13
    rw [if_neg c2] at k
    tm_at "rd"
    refine q_ix_tup ht3 (at0 _ _) ?_
    tm_at "rd"
    refine bd (fun c3 => ?_) (fun c3 => ?_)
    · rw [if_pos c3] at k
      tm_at "rd"
      refine q_ix_lst (SqL.of h3) hlast ?_
      tm_at "rd"
      rw [show decide (wl = cs "asked") = decide (some wl = some (cs "asked")) from decide_eq_decide.mpr (by simp)]
      exact k _ s13
    · rw [if_neg c3] at k
      tm_at "rd"
      refine q_ix_lst (SqL.of h3) hlast ?_
      tm_at "rd"
      intro q3 hq3
      refine b_in_txs (ys := [cs "begun", cs "answered"]) (.inr (SqT.of upd_same)) ?_
      exact k _ (s13.trans (same_new hq3))
end
end K68

set_option maxHeartbeats 4000000
/-! W68i: records written as lines. -/
namespace K68
open PySem PySem.Spec PyProof.Rows L2 TL Ak Kd Jn
local macro_rules | `(tactic| tm_at "rd1") => `(tactic| with_reducible first
  | refine r_seq ?_ | refine r_ifS ?_ | refine r_ret ?_ | refine r_asg ?_ | refine r_next ?_ | refine r_drop ?_ | refine r_par ?_ | refine r_brk ?_ | refine r_cont ?_
  | refine r_op ?_ | refine r_c ?_ | refine r_cb ?_ | refine r_cons ?_ | refine r_nil ?_ | refine r_un ?_ | refine r_tB ?_ | refine r_test ?_ | refine r_not ?_ | refine r_and ?_ | refine r_or ?_ | refine r_andV ?_ | refine r_orV ?_ | refine r_notV ?_ | refine r_if ?_ | refine r_chain ?_
  | refine r_tup ?_ | refine r_lst ?_ | refine r_lstN ?_ | refine r_sl ?_ | refine r_part ?_ | refine r_nopart ?_ | refine r_call ?_ | refine r_callK ?_ | refine r_bm ?_ | refine r_bm0 ?_ | refine r_m1 ?_ | refine r_m0 ?_ | refine r_isN ?_ | refine r_notN ?_
  | refine r_gcons ?_ | refine r_gnil ?_ | refine r_gsub ?_ | refine r_name ?_ | refine r_ilist ?_ | refine r_itup ?_ | refine r_istr ?_ | refine r_irng1 ?_ | refine r_ienum ?_ | refine r_mko ?_ | refine r_yes ?_ | refine r_lc ?_ | refine r_for ?_ | refine turn_i ?_
  | refine r_dput ?_ | refine r_dget ?_ | refine r_izipA ?_ | refine r_ienumT ?_ | refine r_back ?_ | refine r_dsetd ?_ | refine r_dgetN ?_ | refine r_dnotinN ?_ | refine r_isTr ?_ | refine r_lockAsg ?_ | refine r_bl ?_ | refine r_int ?_ | refine r_two ?_ | refine r_str ?_ | refine r_two1 ?_
  | refine b_t ?_ | refine b_f ?_ | refine b_nt ?_ | refine b_nf ?_ | refine q_u ?_ | refine q_i0 ?_ | refine q_ipI ?_ | refine b_add_int ?_ | refine b_eq_int ?_ | refine b_ne_int ?_ | refine b_eq_tx ?_ | refine b_ne_tx ?_ | refine b_in_sg ?_ | refine q_ni_sg ?_)
local macro_rules | `(tactic| tm_at "rd2") => `(tactic| first
  | tm_at "rd1" | refine r_var rfl ?_ | refine r_aug rfl ?_ 
  | refine And.intro (small_n (by simp)) ?_ | tm_at "rdl" | tm_at "rdk")
local macro_rules | `(tactic| tm_at "rdk") => `(tactic| with_reducible first | refine b_isStrV ?_ | refine b_isBlV ?_ | refine b_isIntV ?_ | refine b_isIntB ?_ | refine b_isTupS (by assumption) ?_ | refine b_isTup (by assumption) ?_ | refine b_isInt (by assumption) ?_ | refine b_isBl (by assumption) ?_ | refine b_isStr (by assumption) ?_ | refine b_isLst (by assumption) ?_)
local macro_rules | `(tactic| tm_at "rdl") => `(tactic| first | (with_reducible refine q_len_tx (by assumption) ?_) | (with_reducible refine q_len_tx (by omega) ?_) | (with_reducible refine q_lenB_tx (by assumption) ?_) | (with_reducible refine q_lenB_tx (by omega) ?_))
local macro_rules | `(tactic| tm_at "rd") => `(tactic| repeat tm_at "rd2")
local macro_rules | `(tactic| tm_at "rdw") => `(tactic| repeat (first | tm_at "rd2" | with_reducible refine bd_t rfl ?_ | with_reducible refine bd_f (by decide) ?_ | with_reducible refine bnd_f rfl ?_ | with_reducible refine bnd_t (by decide) ?_))

theorem join1 (ps : List (List Nat)) : Txt.join (tx [32]) (ps.map tx) = tx (joinS ps) := by
  refine ext_tl ?_
  rw [join_eq, tl_join]
  show joinL [32] ((ps.map tx).map tl) = joinS ps
  rw [List.map_map]
  induction ps with
  | nil => rfl
  | cons p ps ih =>
    cases ps with
    | nil => rfl
    | cons q qs =>
      show p ++ ([32] ++ joinL [32] ((q :: qs).map (tl ∘ tx))) = p ++ 32 :: joinS (q :: qs)
      rw [ih]
      rfl
theorem split1 (l : List Nat) : Txt.split (tx l) (tx [32]) = (splitS l).map tx := by
  have h := split_join (y := tx [32]) (s := 32) (S := []) rfl (by decide +kernel) (parts := (splitS l).map tx) (by simp [split_ne]) (fun p hp => by
    obtain ⟨q, hq, rfl⟩ := List.mem_map.mp hp
    exact split_free l q hq)
  rwa [join1, join_split] at h
theorem join_len : ∀ {ps : List (List Nat)}, ps ≠ [] → (ps.map (·.length)).sum + ps.length = (joinS ps).length + 1
  | [], h => absurd rfl h
  | [p], _ => by simp [joinS]
  | p :: q :: ps, _ => by
    have := join_len (ps := q :: ps) (by simp)
    simp only [List.map_cons, List.sum_cons, List.length_cons, joinS, List.length_append] at this ⊢
    omega
theorem sum_tx (ps : List (List Nat)) : ((ps.map tx).map (·.length)).sum = (ps.map (·.length)).sum := by
  rw [List.map_map]
  congr 1
theorem strs_tx (ps : List (List Nat)) : (ps.map tx).map V.str = ps.map fun p => V.str (tx p) := by rw [List.map_map]; rfl
theorem num_len12 {n : Nat} (h : n < 10 ^ 12) : (numL n).length ≤ 12 := numL_len (by decide) h
theorem head_len {n : Nat} {r : Rec} (hn : n < 10 ^ 12) (ok : OkR r) : (head n r).length ≤ 150 := by
  have h0 := num_len12 hn
  have hj := join_len (ps := numL n :: fields r) (by simp)
  unfold head
  cases r with
  | begun k =>
    show (joinS [numL n, cs "begun", numL k]).length ≤ 150
    have := num_len12 ok
    simp only [fields, List.map_cons, List.map_nil, List.sum_cons, List.sum_nil, List.length_cons, List.length_nil, show (cs "begun").length = 5 from rfl] at hj
    omega
  | kept a b =>
    show (joinS [numL n, cs "kept", numL a, numL b]).length ≤ 150
    have := num_len12 ok.1
    have := num_len12 ok.2
    simp only [fields, List.map_cons, List.map_nil, List.sum_cons, List.sum_nil, List.length_cons, List.length_nil, show (cs "kept").length = 4 from rfl] at hj
    omega
  | asked nm t =>
    show (joinS [numL n, cs "asked", nm, word t]).length ≤ 150
    have h1 := word_small ok.2.1 ok.2.2
    have h2 : nm.length ≤ 4 := by
      have := ok.1
      simp only [asks, List.mem_cons, List.not_mem_nil, or_false] at this
      rcases this with rfl | rfl | rfl <;> decide
    simp only [fields, List.map_cons, List.map_nil, List.sum_cons, List.sum_nil, List.length_cons, List.length_nil, show (cs "asked").length = 5 from rfl] at hj
    omega
  | answered t =>
    show (joinS [numL n, cs "answered", word t]).length ≤ 150
    have h1 := word_small ok.1 ok.2
    simp only [fields, List.map_cons, List.map_nil, List.sum_cons, List.sum_nil, List.length_cons, List.length_nil, show (cs "answered").length = 8 from rfl] at hj
    omega
theorem line_len {n : Nat} {r : Rec} (hn : n < 10 ^ 12) (ok : OkR r) : (line n r).length ≤ 160 := by
  have h1 := head_len hn ok
  have h2 := sum_len (head n r)
  simp only [line, lineB, List.length_append, List.length_cons, List.length_nil]
  omega
section
variable {P : Program} {w : World} {K : PySem.W.Frag} {mg : Str → Option Value} {base : Heap}
def sp_parts (K : PySem.W.Frag) : Sp := fun vs H Q _ => ∃ (v : V) (r : Rec), vs = [v] ∧ Rv K H v r ∧ OkR r ∧ ∀ H' l, Same H H' → H' l = some (.lst ((fields r).map fun p => V.str (tx p))) → Q (.ref l) H'
theorem ok_parts_of (T : Tx K mg) (D : Td K mg w) : FnOk P w K mg base CX0 7 T.f_parts_of T.fd_parts_of ["record"] (sp_parts K) := by
  have G_word_of := ok_word_of (P := P) (w := w) (base := base) T D 4
  have b_word_of := T.d_word_of.F.binds (ps := ["telling"]) fun _ _ _ _ _ _ us hl => match us, hl with | [_], _ => rfl
  refine T.d_parts_of.F.ok sc_parts_of (fun vs H Q E h => ?_) (fun cdv A outer s H vs Q E hr h => ?_)
  · obtain ⟨v, r, rfl, _⟩ := h
    rfl
  · obtain ⟨v, r, rfl, hv, ok, k⟩ := h
    have hu := hu_of hr
    have hu64 := hr.units
    refine ⟨_, (pss_cons (ps_if (pt_cmpR (opInB (K := K) rfl hu64) (pe_ix (ixAny (K := K) rfl) (pv 0) pe_int (fun _ _ => rfl)) (pe_tup (pa_cons (pe_const T.c_BEGUN (by rfl)) (pa_cons (pe_const T.c_KEPT (by rfl)) pa_nil))) (by rfl)) (pss_one (ps_ret (pe_op (opAddB (K := K) rfl) (pe_lst (pa_cons (pe_ix (ixAny (K := K) rfl) (pv 0) pe_int (fun _ _ => rfl)) pa_nil)) (pe_lc (own := [("number", 1)]) (g := gName 1) rfl sc_parts_of.nd (pi_tup (pe_slice (slB (K := K) rfl) (pv 0) (po_some pe_int) po_none)) (blkOk_by (own := [("number", 1)]) (N := nm_parts_of) (sc := defScope s_parts_of) (by decide +kernel)) (fun _ _ _ _ _ => pg_name (i := 1) sc_parts_of.nd rfl (Or.inl rfl)) (fun _ _ _ _ _ => pts_nil) (fun _ _ _ _ _ => (pe_callTy call_str_int (by rfl) T.n_str (by decide +kernel) (pa_cons (pv 1) pa_nil))))))) pss_nil)
      (pss_cons (ps_if (pt_cmpR (opEqB (K := K) rfl hu64) (pe_ix (ixAny (K := K) rfl) (pv 0) pe_int (fun _ _ => rfl)) (pe_const T.c_ASKED (by rfl)) (nomark _)) (pss_one (ps_ret (pe_lst (pa_cons (pe_const T.c_ASKED (by rfl)) (pa_cons (pe_ix (ixAny (K := K) rfl) (pv 0) pe_int (fun _ _ => rfl)) (pa_cons (pe_call G_word_of (hr.mono (by first | decide | omega)) rfl T.d_word_of.g T.d_word_of.F.kp b_word_of .nil pass0 (pa_cons (pe_ix (ixAny (K := K) rfl) (pv 0) pe_int (fun _ _ => rfl)) pa_nil)) pa_nil)))))) pss_nil)
      (pss_one (ps_ret (pe_lst (pa_cons (pe_ix (ixAny (K := K) rfl) (pv 0) pe_int (fun _ _ => rfl)) (pa_cons (pe_call G_word_of (hr.mono (by first | decide | omega)) rfl T.d_word_of.g T.d_word_of.F.kp b_word_of .nil pass0 (pa_cons (pe_ix (ixAny (K := K) rfl) (pv 0) pe_int (fun _ _ => rfl)) pa_nil)) pa_nil))))))), ?_⟩
    obtain ⟨p, xs, rfl, ht, hx⟩ := rv_word hv
    tm_at "rd"
    refine q_ix_tup ht (at0 _ _) ?_
    tm_at "rd"
    intro q1 hq1
    have s1 := same_new (o := .tup [.str (tx (cs "begun")), .str (tx (cs "kept"))]) hq1
    refine b_in_txs (ys := [cs "begun", cs "kept"]) (.inr (SqT.of upd_same)) ?_
    have ht1 := Same.tup s1 ht
    have hx1 := hx.same s1
    generalize upd H q1 (.tup [.str (tx (cs "begun")), .str (tx (cs "kept"))]) = H1 at s1 ht1 hx1
    clear ht hx hv
    have three : (∃ ns : List Nat, xs = ns.map (fun n => V.int (n : Nat)) ∧ (∀ n ∈ ns, n < 10 ^ 12) ∧ fields r = wordR r :: ns.map numL ∧ ([cs "begun", cs "kept"] : List (List Nat)).contains (wordR r) = true ∧ ns.length ≤ 2) ∨
        (∃ nm t x, r = .asked nm t ∧ xs = [.str (tx nm), x] ∧ Tv K H1 x t) ∨ ∃ t x, r = .answered t ∧ xs = [x] ∧ Tv K H1 x t := by
      cases r with
      | begun n =>
        cases hx1 with
        | cons h1 r1 =>
        cases r1
        obtain rfl := dp_int h1
        exact .inl ⟨[n], rfl, fun m hm => by rw [List.mem_singleton.mp hm]; exact ok, rfl, (show ([cs "begun", cs "kept"] : List (List Nat)).contains (cs "begun") = true by decide), by simp⟩
      | kept a b =>
        cases hx1 with
        | cons h1 r1 =>
        cases r1 with
        | cons h2 r2 =>
        cases r2
        obtain rfl := dp_int h1
        obtain rfl := dp_int h2
        exact .inl ⟨[a, b], rfl, fun m hm => by
          rcases List.mem_cons.mp hm with rfl | hm
          · exact ok.1
          · rw [List.mem_singleton.mp hm]; exact ok.2, rfl, (show ([cs "begun", cs "kept"] : List (List Nat)).contains (cs "kept") = true by decide), by simp⟩
      | asked nm t =>
        cases hx1 with
        | cons h1 r1 =>
        cases r1 with
        | cons h2 r2 =>
        cases r2
        obtain rfl := dp_str h1
        exact .inr (.inl ⟨nm, t, _, rfl, rfl, h2⟩)
      | answered t =>
        cases hx1 with
        | cons h1 r1 =>
        cases r1
        exact .inr (.inr ⟨t, _, rfl, rfl, h1⟩)
    clear hx1
    rcases three with ⟨ns, rfl, hns, hf, hc, hnl⟩ | ⟨nm, t, x, rfl, rfl, hx⟩ | ⟨t, x, rfl, rfl, hx⟩
    · rw [hc]
      rw [hf] at k
      tm_at "rd"
      refine q_ix_tup ht1 (at0 _ _) ?_
      tm_at "rd"
      intro q2 hq2
      have s2 := same_new (o := .lst [.str (tx (wordR r))]) hq2
      have ht2 := Same.tup s2 ht1
      have hq2l := upd_same (H := H1) (a := q2) (o := .lst [.str (tx (wordR r))])
      generalize upd H1 q2 (.lst [.str (tx (wordR r))]) = H2 at s2 ht2 hq2l
      tm_at "rd"
      refine b_tail (i := 1) ht2 fun b H3 s3 hb => ?_
      refine ⟨b, rfl, ⟨_, hb⟩, fun D hD => ?_⟩
      have hb' : SqT K H3 b (ns.map fun n => V.int (n : Nat)) := hb
      refine lc_gen (walk_tup (K := K) (a := b) (xs := ns.map fun n => V.int (n : Nat))) (fun j => .str (tx (numL (ns.getD j 0)))) (by rw [List.length_map]; exact Nat.lt_of_le_of_lt hnl (by decide)) (fun H4 s4 => Same.tup s4 hb') (fun j x H4 H5 _ _ y => by rw [y.1]; exact Same.refl _) (fun j x H4 H5 hj s4 y Q3 R3 q => ?_) hD (fun H4 s4 h4 => ?_)
      · obtain ⟨rfl, hx⟩ := y
        obtain ⟨n, hn, rfl⟩ := map_at hx
        rw [List.getD_eq_getElem?_getD, hn] at q
        have hlt := hns n (List.mem_of_getElem? hn)
        tm_at "rd"
        refine ⟨rfl, ?_⟩
        tm_at "rd"
        have e12 : (10 : Nat) ^ 12 < 2 ^ 40 := by decide
        refine ⟨n, rfl, log_le (n := 40) (by rw [Int.natAbs_natCast]; omega) (by decide), ?_⟩
        rw [num_tx, dig_nat]
        exact q _ (Same.refl _)
      · have e4 : (List.range (ns.map fun n => V.int (n : Nat)).length).map (fun j => V.str (tx (numL (ns.getD j 0)))) = (ns.map numL).map fun p => V.str (tx p) := by
          rw [List.length_map, List.map_map]
          apply List.ext_getElem
          · simp
          · intro i h1 h2
            simp at h1
            simp [List.getD, h1]
        rw [e4] at h4
        refine b_add_lst ((s3.trans s4) _ _ hq2l) h4 (by simp only [List.length_map, List.length_cons, List.length_nil]; omega) fun p9 hp9 => ?_
        exact k _ p9 ((((s1.trans s2).trans s3).trans s4).trans (same_new hp9)) upd_same
    · rw [show ([cs "begun", cs "kept"] : List (List Nat)).contains (wordR (.asked nm t)) = false from (show ([cs "begun", cs "kept"] : List (List Nat)).contains (cs "asked") = false by decide)]
      change SqT K H1 p (.str (tx (cs "asked")) :: _) at ht1
      tm_at "rd"
      refine q_ix_tup ht1 (at0 _ _) ?_
      tm_at "rdw"
      refine q_ix_tup ht1 (v := .str (tx nm)) rfl ?_
      tm_at "rd"
      refine q_ix_tup ht1 (v := x) rfl ?_
      tm_at "rd"
      refine ⟨x, t, rfl, hx, ok.2.1, ok.2.2, by decide, fun H2 s2 => ?_⟩
      tm_at "rd"
      intro l hl
      exact k _ l ((s1.trans s2).trans (same_new hl)) upd_same
    · rw [show ([cs "begun", cs "kept"] : List (List Nat)).contains (wordR (.answered t)) = false from (show ([cs "begun", cs "kept"] : List (List Nat)).contains (cs "answered") = false by decide)]
      change SqT K H1 p (.str (tx (cs "answered")) :: _) at ht1
      tm_at "rd"
      refine q_ix_tup ht1 (at0 _ _) ?_
      tm_at "rdw"
      refine q_ix_tup ht1 (at0 _ _) ?_
      tm_at "rd"
      refine q_ix_tup ht1 (v := x) rfl ?_
      tm_at "rd"
      refine ⟨x, t, rfl, hx, ok.1, ok.2, by decide, fun H2 s2 => ?_⟩
      tm_at "rd"
      intro l hl
      exact k _ l ((s1.trans s2).trans (same_new hl)) upd_same
def sp_line (K : PySem.W.Frag) : Sp := fun vs H Q _ => ∃ (v : V) (r : Rec) (n : Nat), vs = [.int (n : Nat), v] ∧ n < 10 ^ 12 ∧ Rv K H v r ∧ OkR r ∧ ∀ H', Same H H' → Q (.str (tx (line n r))) H'
theorem ok_line_of (T : Tx K mg) (D : Td K mg w) : FnOk P w K mg base CX0 8 T.f_line_of T.fd_line_of ["number", "record"] (sp_line K) := by
  have G_parts_of := ok_parts_of (P := P) (w := w) (base := base) T D
  have G_sum_of_signs := ok_sum_of_signs (P := P) (w := w) (base := base) T
  have b_parts_of := T.d_parts_of.F.binds (ps := ["record"]) fun _ _ _ _ _ _ us hl => match us, hl with | [_], _ => rfl
  have b_sum_of_signs := T.d_sum_of_signs.F.binds (ps := ["text"]) fun _ _ _ _ _ _ us hl => match us, hl with | [_], _ => rfl
  refine T.d_line_of.F.ok sc_line_of (fun vs H Q E h => ?_) (fun cdv A outer s H vs Q E hr h => ?_)
  · obtain ⟨v, r, n, rfl, _⟩ := h
    rfl
  · obtain ⟨v, r, n, rfl, hn, hv, ok, k⟩ := h
    have hu := hu_of hr
    have hu64 := hr.units
    refine ⟨_, (pss_cons (ps_set (i := 2) sc_line_of.nd rfl (Or.inl rfl) (pe_joinK (K := K) rfl (pe_lit " ") (pe_op (opAddB (K := K) rfl) (pe_lst (pa_cons (pe_callTy call_str_int (by rfl) T.n_str (by decide +kernel) (pa_cons (pv 0) pa_nil)) pa_nil)) (pe_call G_parts_of (hr.mono (by first | decide | omega)) rfl T.d_parts_of.g T.d_parts_of.F.kp b_parts_of .nil pass0 (pa_cons (pv 1) pa_nil)))))
      (pss_one (ps_ret (pe_op (opAddB (K := K) rfl) (pe_op (opAddB (K := K) rfl) (pe_op (opAddB (K := K) rfl) (pv 2) (pe_lit " ")) (pe_callTy call_str_int (by rfl) T.n_str (by decide +kernel) (pa_cons (pe_call G_sum_of_signs (hr.mono (by first | decide | omega)) rfl T.d_sum_of_signs.g T.d_sum_of_signs.F.kp b_sum_of_signs .nil pass0 (pa_cons (pv 2) pa_nil)) pa_nil))) (pe_lit "\n"))))), ?_⟩
    have e12 : (10 : Nat) ^ 12 < 2 ^ 40 := by decide
    have hhl := head_len hn ok
    tm_at "rd"
    refine ⟨n, rfl, log_le (n := 40) (by rw [Int.natAbs_natCast]; omega) (by decide), ?_⟩
    rw [num_tx, dig_nat]
    tm_at "rd"
    intro q1 hq1
    have s1 := same_new (o := .lst [.str (tx (numL n))]) hq1
    have h1 := upd_same (H := H) (a := q1) (o := .lst [.str (tx (numL n))])
    generalize upd H q1 (.lst [.str (tx (numL n))]) = H1 at s1 h1
    tm_at "rd"
    refine ⟨v, r, rfl, hv.same s1, ok, fun H2 l s2 h2 => ?_⟩
    refine b_add_lst (s2 _ _ h1) h2 (by have := r; cases r <;> simp [fields]) fun p9 hp9 => ?_
    have s3 := same_new (o := .lst ([V.str (tx (numL n))] ++ (fields r).map fun p => V.str (tx p))) hp9
    have hj := join_len (ps := numL n :: fields r) (by simp)
    have hj2 : (joinS (numL n :: fields r)).length ≤ 150 := hhl
    refine ⟨tx [32], p9, (numL n :: fields r).map tx, rfl, rfl, .inl (SqL.of (by rw [upd_same, strs_tx]; rfl)), ?_, ?_⟩
    · rw [sum_tx, List.length_map, show (tx [32]).length = 1 from rfl]
      omega
    rw [join1]
    generalize upd H2 p9 (.lst ([V.str (tx (numL n))] ++ (fields r).map fun p => V.str (tx p))) = H3 at s3
    have s03 := (s1.trans s2).trans s3
    change gName 2 (.str (tx (head n r))) _ H3 _
    have hs8 := sum_len (head n r)
    have hslt := sum_lt (head n r)
    have e30 : (99460729 : Nat) < 2 ^ 30 := by decide
    tm_at "rd"
    refine b_add_tx (by rw [show (cs " ").length = 1 from rfl]; omega) ?_
    tm_at "rd"
    refine ⟨head n r, rfl, by omega, fun H4 s4 => ?_⟩
    tm_at "rd"
    refine ⟨_, rfl, log_le (n := 30) (by rw [Int.natAbs_natCast]; omega) (by decide), ?_⟩
    rw [num_tx, dig_nat]
    refine b_add_tx (by rw [List.length_append, show (cs " ").length = 1 from rfl]; omega) ?_
    tm_at "rd"
    refine b_add_tx (by rw [List.length_append, List.length_append, show (cs " ").length = 1 from rfl, show (cs "\n").length = 1 from rfl]; omega) ?_
    rw [show ((head n r ++ cs " ") ++ numL (Jn.sum (head n r))) ++ cs "\n" = line n r by
      rw [show cs " " = [32] from rfl, show cs "\n" = [10] from rfl]
      simp [line, lineB]]
    exact k _ (s03.trans s4)
theorem ok_record_line (T : Tx K mg) (D : Td K mg w) : FnOk P w K mg base CX0 9 T.f_record_line T.fd_record_line ["number", "record"] (sp_line K) := by
  have G_is_number := ok_is_number (P := P) (w := w) (base := base) T D
  have G_is_record_of := ok_is_record_of (P := P) (w := w) (base := base) T D
  have G_line_of := ok_line_of (P := P) (w := w) (base := base) T D
  have b_is_number := T.d_is_number.F.binds (ps := ["value"]) fun _ _ _ _ _ _ us hl => match us, hl with | [_], _ => rfl
  have b_is_record_of := T.d_is_record_of.F.binds (ps := ["value"]) fun _ _ _ _ _ _ us hl => match us, hl with | [_], _ => rfl
  have b_line_of := T.d_line_of.F.binds (ps := ["number", "record"]) fun _ _ _ _ _ _ us hl => match us, hl with | [_, _], _ => rfl
  refine T.d_record_line.F.ok sc_record_line (fun vs H Q E h => ?_) (fun cdv A outer s H vs Q E hr h => ?_)
  · obtain ⟨v, r, n, rfl, _⟩ := h
    rfl
  · obtain ⟨v, r, n, rfl, hn, hv, ok, k⟩ := h
    have hu := hu_of hr
    have hu64 := hr.units
    refine ⟨_, (pss_cons (ps_if (pt_not (pt_val (pe_call G_is_number (hr.mono (by first | decide | omega)) rfl T.d_is_number.g T.d_is_number.F.kp b_is_number .nil pass0 (pa_cons (pv 0) pa_nil)))) (pss_one ps_never) pss_nil)
      (pss_cons (ps_if (pt_not (pt_val (pe_call G_is_record_of (hr.mono (by first | decide | omega)) rfl T.d_is_record_of.g T.d_is_record_of.F.kp b_is_record_of .nil pass0 (pa_cons (pv 1) pa_nil)))) (pss_one ps_never) pss_nil)
      (pss_one (ps_ret (pe_call G_line_of (hr.mono (by first | decide | omega)) rfl T.d_line_of.g T.d_line_of.F.kp b_line_of .nil pass0 (pa_cons (pv 0) (pa_cons (pv 1) pa_nil))))))), ?_⟩
    have e12 : (10 : Nat) ^ 12 = 1000000000000 := by decide
    tm_at "rd"
    refine ⟨n, rfl, by omega, by omega, fun H1 s1 => ?_⟩
    tm_at "rd"
    refine ⟨v, rfl, .inl ⟨r, hv.same s1, ok, fun H2 s2 => ?_⟩⟩
    tm_at "rd"
    exact ⟨v, r, n, rfl, hn, (hv.same s1).same s2, ok, fun H3 s3 => k _ ((s1.trans s2).trans s3)⟩
/-- lines, one behind another -/
def linesFrom : Nat → List Rec → List Nat
  | _, [] => []
  | n, r :: rs => line n r ++ linesFrom (n + 1) rs
theorem lines_range (rs : List Rec) : ∀ n, (List.range rs.length).map (fun j => line (n + j) (rs.getD j (.begun 0))) = (rs.zipIdx n).map fun x => line x.2 x.1 := by
  induction rs with
  | nil => intro n; rfl
  | cons r rs ih =>
    intro n
    rw [List.length_cons, List.range_succ_eq_map, List.map_cons, List.map_map, List.zipIdx_cons, List.map_cons, ← ih (n + 1)]
    congr 1
    apply List.map_congr_left
    intro j _
    show line (n + (j + 1)) ((r :: rs).getD (j + 1) (.begun 0)) = _
    rw [show n + (j + 1) = n + 1 + j by omega]
    rfl
theorem lines_flat (rs : List Rec) : ∀ n, ((rs.zipIdx n).map fun x => line x.2 x.1).flatten = linesFrom n rs := by
  induction rs with
  | nil => intro n; rfl
  | cons r rs ih =>
    intro n
    rw [List.zipIdx_cons, List.map_cons, List.flatten_cons, ih]
    rfl
theorem lines_len {rs : List Rec} (h : ∀ r ∈ rs, OkR r) : ∀ n, n + rs.length ≤ 1000 → (linesFrom n rs).length ≤ 160 * rs.length := by
  induction rs with
  | nil => intro n _; simp [linesFrom]
  | cons r rs ih =>
    intro n hn
    simp only [List.length_cons] at hn ⊢
    have h1 := line_len (n := n) (r := r) (by have : (1000 : Nat) < 10 ^ 12 := by decide
                                              omega) (h r List.mem_cons_self)
    have h2 := ih (fun x hx => h x (List.mem_cons_of_mem _ hx)) (n + 1) (by omega)
    simp only [linesFrom, List.length_append]
    omega
def sp_jof (K : PySem.W.Frag) : Sp := fun vs H Q _ => ∃ (l : Addr) (rv : List V) (rs : List Rec), vs = [.ref l] ∧ H l = some (.lst rv) ∧ DpAll K H rv (rs.map recD) ∧ (∀ r ∈ rs, OkR r) ∧ rs.length ≤ 500 ∧ ∀ H', Same H H' → Q (.str (tx (linesFrom 0 rs))) H'
theorem ok_journal_of (T : Tx K mg) (D : Td K mg w) : FnOk P w K mg base CX0 9 T.f_journal_of T.fd_journal_of ["records"] (sp_jof K) := by
  have G_line_of := ok_line_of (P := P) (w := w) (base := base) T D
  have b_line_of := T.d_line_of.F.binds (ps := ["number", "record"]) fun _ _ _ _ _ _ us hl => match us, hl with | [_, _], _ => rfl
  refine T.d_journal_of.F.ok sc_journal_of (fun vs H Q E h => ?_) (fun cdv A outer s H vs Q E hr h => ?_)
  · obtain ⟨l, rv, rs, rfl, _⟩ := h
    rfl
  · obtain ⟨l, rv, rs, rfl, hL, hA, hok, hz, k⟩ := h
    have hu := hu_of hr
    have hu64 := hr.units
    refine ⟨_, (pss_one (ps_ret (pe_joinK (K := K) rfl (pe_lit "") (pe_lc (own := [("number", 1), ("record", 2)]) (g := (gTup K 2 (gCons (gName 1) (gCons (gName 2) gNil)))) rfl sc_journal_of.nd (pi_enum (by rfl) T.n_enumerate (pa_cons (pv 0) pa_nil)) (blkOk_by (own := [("number", 1), ("record", 2)]) (N := nm_journal_of) (sc := defScope s_journal_of) (by decide +kernel)) (fun _ _ _ _ _ => pg_tup rfl (pgs_cons (pg_name (i := 1) sc_journal_of.nd rfl (Or.inl rfl)) (pgs_cons (pg_name (i := 2) sc_journal_of.nd rfl (Or.inl rfl)) pgs_nil))) (fun _ _ _ _ _ => pts_nil) (fun _ _ _ _ _ => (pe_call G_line_of (hr.mono (by first | decide | omega)) rfl T.d_line_of.g T.d_line_of.F.kp b_line_of .nil pass0 (pa_cons (pv 1) (pa_cons (pv 2) pa_nil)))))))), ?_⟩
    have hal := hA.length
    rw [List.length_map] at hal
    tm_at "rd"
    refine ⟨l, rv, rfl, SqL.of hL, fun D0 hD => ?_⟩
    refine lc_gen (walk_enum (K := K) (a := l) (xs := rv)) (fun j => .str (tx (line (0 + j) (rs.getD j (.begun 0))))) (Nat.lt_of_le_of_lt (by omega : rv.length ≤ 500) (by decide)) (fun H2 s2 => SqL.of (s2 _ _ hL)) (fun j x H2 H3 _ s2 y => ?_) (fun j x H2 H3 hj s2 y Q3 R3 q => ?_) hD (fun H2 s2 h2 => ?_)
    · obtain ⟨T', x', y', rfl, hT, rfl, _, _⟩ := y
      exact same_new hT
    · obtain ⟨T', x', y', rfl, hT, rfl, hx, hy⟩ := y
      obtain rfl : x' = .int (j : Nat) := (Option.some.inj hx).symm
      obtain ⟨d, hd1, hd2⟩ := dp_at (hA.same s2) hy
      rw [List.getElem?_map] at hd1
      obtain ⟨rj, ej, rfl⟩ := Option.map_eq_some_iff.mp hd1
      rw [List.getD_eq_getElem?_getD, ej, Nat.zero_add] at q
      have hjr : j < rs.length := by omega
      have e12 : (500 : Nat) < 10 ^ 12 := by decide
      refine r_gtup (SqT.of upd_same) rfl ?_
      tm_at "rd"
      refine ⟨rfl, ?_⟩
      tm_at "rd"
      exact ⟨y', rj, j, rfl, by omega, hd2.same (same_new hT), hok rj (List.mem_of_getElem? ej), fun H4 s4 => q _ s4⟩
    · have e1 : (List.range rv.length).map (fun j => V.str (tx (line (0 + j) (rs.getD j (.begun 0))))) = ((rs.zipIdx 0).map fun x => line x.2 x.1).map fun p => V.str (tx p) := by
        rw [hal, ← lines_range rs 0, List.map_map]
        rfl
      rw [e1] at h2
      have hln := lines_len hok 0 (by omega)
      tm_at "rd"
      refine ⟨tx [], D0, ((rs.zipIdx 0).map fun x => line x.2 x.1).map tx, rfl, rfl, .inl (SqL.of (by rw [h2, strs_tx])), ?_, ?_⟩
      · rw [sum_tx, show (tx []).length = 0 from rfl]
        have e3 : (((rs.zipIdx 0).map fun x => (line x.2 x.1 : List Nat)).map (fun p : List Nat => p.length)).sum = (linesFrom 0 rs).length := by rw [← lines_flat, List.length_flatten]
        refine Nat.le_trans (Nat.le_of_eq (show _ = (linesFrom 0 rs).length from by rw [Nat.mul_zero, Nat.add_zero]; exact e3)) ?_
        omega
      · rw [join0, lines_flat]
        exact k _ s2
end
end K68

set_option maxHeartbeats 4000000
/-! W68j: records read from parts; lines read. -/
namespace K68
open PySem PySem.Spec PyProof.Rows L2 TL Ak Kd Jn
local macro_rules | `(tactic| tm_at "rd1") => `(tactic| with_reducible first
  | refine r_seq ?_ | refine r_ifS ?_ | refine r_ret ?_ | refine r_asg ?_ | refine r_next ?_ | refine r_drop ?_ | refine r_par ?_ | refine r_brk ?_ | refine r_cont ?_
  | refine r_op ?_ | refine r_c ?_ | refine r_cb ?_ | refine r_cons ?_ | refine r_nil ?_ | refine r_un ?_ | refine r_tB ?_ | refine r_test ?_ | refine r_not ?_ | refine r_and ?_ | refine r_or ?_ | refine r_andV ?_ | refine r_orV ?_ | refine r_notV ?_ | refine r_if ?_ | refine r_chain ?_
  | refine r_tup ?_ | refine r_lst ?_ | refine r_lstN ?_ | refine r_sl ?_ | refine r_part ?_ | refine r_nopart ?_ | refine r_call ?_ | refine r_callK ?_ | refine r_bm ?_ | refine r_bm0 ?_ | refine r_m1 ?_ | refine r_m0 ?_ | refine r_isN ?_ | refine r_notN ?_
  | refine r_gcons ?_ | refine r_gnil ?_ | refine r_gsub ?_ | refine r_name ?_ | refine r_ilist ?_ | refine r_itup ?_ | refine r_istr ?_ | refine r_irng1 ?_ | refine r_ienum ?_ | refine r_mko ?_ | refine r_yes ?_ | refine r_lc ?_ | refine r_for ?_ | refine turn_i ?_
  | refine r_dput ?_ | refine r_dget ?_ | refine r_izipA ?_ | refine r_ienumT ?_ | refine r_back ?_ | refine r_dsetd ?_ | refine r_dgetN ?_ | refine r_dnotinN ?_ | refine r_isTr ?_ | refine r_lockAsg ?_ | refine r_bl ?_ | refine r_int ?_ | refine r_two ?_ | refine r_str ?_ | refine r_two1 ?_
  | refine b_t ?_ | refine b_f ?_ | refine b_nt ?_ | refine b_nf ?_ | refine q_u ?_ | refine q_i0 ?_ | refine q_ipI ?_ | refine b_add_int ?_ | refine b_eq_int ?_ | refine b_ne_int ?_ | refine b_eq_tx ?_ | refine b_ne_tx ?_ | refine b_in_sg ?_ | refine q_ni_sg ?_)
local macro_rules | `(tactic| tm_at "rd2") => `(tactic| first
  | tm_at "rd1" | refine r_var rfl ?_ | refine r_aug rfl ?_ 
  | refine And.intro (small_n (by simp)) ?_ | tm_at "rdl" | tm_at "rdk")
local macro_rules | `(tactic| tm_at "rdk") => `(tactic| with_reducible first | refine b_isStrV ?_ | refine b_isBlV ?_ | refine b_isIntV ?_ | refine b_isIntB ?_ | refine b_isTupS (by assumption) ?_ | refine b_isTup (by assumption) ?_ | refine b_isInt (by assumption) ?_ | refine b_isBl (by assumption) ?_ | refine b_isStr (by assumption) ?_ | refine b_isLst (by assumption) ?_)
local macro_rules | `(tactic| tm_at "rdl") => `(tactic| first | (with_reducible refine q_len_tx (by assumption) ?_) | (with_reducible refine q_len_tx (by omega) ?_) | (with_reducible refine q_lenB_tx (by assumption) ?_) | (with_reducible refine q_lenB_tx (by omega) ?_))
local macro_rules | `(tactic| tm_at "rd") => `(tactic| repeat tm_at "rd2")
local macro_rules | `(tactic| tm_at "rdw") => `(tactic| repeat (first | tm_at "rd2" | with_reducible refine bd_t rfl ?_ | with_reducible refine bd_f (by decide) ?_ | with_reducible refine bnd_f rfl ?_ | with_reducible refine bnd_t (by decide) ?_))

def rNiDT (K : PySem.W.Frag) : R2 := fun x y H Q => ∃ d ds, Dp K H x d ∧ Dp K H y (.tuple ds) ∧ SeqAt.shaped d = true ∧ SeqAt.shaped (.tuple ds) = true ∧ Q (.bl (!ds.any fun z => PyData.eqv z d)) H
theorem op_niDT {X : Cx} (hu : X.A.units + 64 < cLine) : OpR X (compareOp .NotIn) (rNiDT X.K) := by
  intro pins s σ H x y v u Q I rx ry h
  obtain ⟨d, ds, hd, he, sd, se, q⟩ := h
  obtain ⟨as, r1⟩ := Dp.reads I d x v hd rx
  obtain ⟨bs, r2⟩ := Dp.reads I (.tuple ds) y u he ry
  have hl : PyData.depthAll ds ≤ 63 := by
    unfold SeqAt.shaped at se
    rw [Bool.and_eq_true, decide_eq_true_eq] at se
    have := se.2
    simp only [PyData.depth] at this
    omega
  refine SeqAt.notIn_tuple_reads r2 r1 ?_ (SeqAt.canLay_of_shaped sd) ?_ ⟨.bl _, H, I, rfl, q⟩
  · have := SeqAt.canLay_of_shaped se
    simpa [PyData.canLay0] using this
  · have := Nat.min_le_left (PyData.depthAll ds) d.depth
    omega
theorem opNiD {X : Cx} {K : PySem.W.Frag} (hK : X.K = K) (hu : X.A.units + 64 < cLine) : OpR X (compareOp .NotIn) (rNiDT K) := hK ▸ op_niDT hu
theorem b_addT {K : PySem.W.Frag} {a b : Addr} {xs ys : List V} {H : Hp} {Q : VK} (ha : SqT K H a xs) (hb : SqT K H b ys) (hz : xs.length + ys.length ≤ 1000000) (q : ∀ g H', Same H H' → SqT K H' g (xs ++ ys) → Q (.ref g) H') : rAddB K (.ref a) (.ref b) H Q := by
  refine b_add_tup ha hb hz (fun e => q b H (Same.refl _) (by rw [e]; exact hb)) (fun _ e => q a H (Same.refl _) (by rw [e, List.append_nil]; exact ha)) (fun _ _ p hp => q p _ (same_new hp) (SqT.of upd_same))
def optD : Option Nat → PyData
  | none => .none
  | some n => .int (n : Nat)
theorem opts_dp {K : PySem.W.Frag} {H : Hp} : ∀ os : List (Option Nat), DpAll K H (os.map optV) (os.map optD)
  | [] => .nil
  | none :: os => .cons .non (opts_dp os)
  | some n :: os => .cons (.int _) (opts_dp os)
theorem opts_lay : ∀ os : List (Option Nat), PyData.canLayAll0 (os.map optD) = true
  | [] => rfl
  | none :: os => by simp only [List.map_cons, optD, PyData.canLayAll0, PyData.canLay0, opts_lay os]; rfl
  | some n :: os => by simp only [List.map_cons, optD, PyData.canLayAll0, PyData.canLay0, opts_lay os]; rfl
theorem opts_depth : ∀ os : List (Option Nat), PyData.depthAll (os.map optD) = 0
  | [] => rfl
  | none :: os => by simp only [List.map_cons, optD, PyData.depthAll, PyData.depth, opts_depth os]; rfl
  | some n :: os => by simp only [List.map_cons, optD, PyData.depthAll, PyData.depth, opts_depth os]; rfl
theorem eqv_opt (o : Option Nat) : PyData.eqv (optD o) .none = o.isNone := by cases o <;> rfl
theorem eqv_tl_none (t : Tl) : PyData.eqv (tlD t) .none = false := by cases t <;> rfl
theorem any_none (os : List (Option Nat)) : (os.map optD).any (fun z => PyData.eqv z .none) = os.any Option.isNone := by
  rw [List.any_map]
  congr 1
  funext o
  exact eqv_opt o
theorem shaped_wd {wd : List Nat} {ds : List PyData} (h : wd.all (fun c => decide (c < 128)) = true) (hd : PyData.canLayAll0 ds = true) (hp : PyData.depthAll ds ≤ 50) : SeqAt.shaped (.tuple (.str (tx wd) :: ds)) = true := by
  unfold SeqAt.shaped
  rw [Bool.and_eq_true, decide_eq_true_eq]
  refine ⟨by simp only [PyData.canLay0, PyData.canLayAll0, strOk_tx h, hd]; rfl, ?_⟩
  simp only [PyData.depth, PyData.depthAll]
  omega
def seqOk (rs : List Rec) : Prop := ∀ j r, rs[j]? = some r → fol (rs.take j) r = true
section
variable {P : Program} {w : World} {K : PySem.W.Frag} {mg : Str → Option Value} {base : Heap}
def sp_are (K : PySem.W.Frag) : Sp := fun vs H Q _ => ∃ (l : Addr) (rv : List V) (rs : List Rec), vs = [.ref l] ∧ H l = some (.lst rv) ∧ DpAll K H rv (rs.map recD) ∧ (∀ r ∈ rs, OkR r) ∧ seqOk rs ∧ rs.length ≤ 500 ∧ ∀ H', Same H H' → Q (.bl true) H'
theorem ok_are_records_of (T : Tx K mg) (D : Td K mg w) : FnOk P w K mg base CX0 8 T.f_are_records_of T.fd_are_records_of ["value"] (sp_are K) := by
  have G_is_record_of := ok_is_record_of (P := P) (w := w) (base := base) T D
  have G_follows := ok_follows (P := P) (w := w) (base := base) T
  have b_is_record_of := T.d_is_record_of.F.binds (ps := ["value"]) fun _ _ _ _ _ _ us hl => match us, hl with | [_], _ => rfl
  have b_follows := T.d_follows.F.binds (ps := ["records", "record"]) fun _ _ _ _ _ _ us hl => match us, hl with | [_, _], _ => rfl
  refine T.d_are_records_of.F.ok sc_are_records_of (fun vs H Q E h => ?_) (fun cdv A outer s H vs Q E hr h => ?_)
  · obtain ⟨l, rv, rs, rfl, _⟩ := h
    rfl
  · obtain ⟨l, rv, rs, rfl, hL, hA, hok, hsq, hz, k⟩ := h
    have hu := hu_of hr
    have hu64 := hr.units
    refine ⟨_, (pss_cons (ps_if (PW.pt (pw_or (pt_not (pt_val (pe_callB (caIsB (K := K) rfl) (by rfl) T.n_isinstance (by decide +kernel) (pa_cons (pv 0) (pa_cons (pe_tup (pa_cons (pe_bltn (v := .ty "list") (u := .type "list") (by rfl) T.n_list (by decide +kernel) rfl) (pa_cons (pe_bltn (v := .ty "tuple") (u := .type "tuple") (by rfl) T.n_tuple (by decide +kernel) rfl) pa_nil))) pa_nil))))) (pw_or1 (pt_not (pt_val (pe_callB (caAll (K := K) rfl rfl) (by rfl) T.n_all (by decide +kernel) (pa_cons (pe_lc (own := [("one", 2)]) (g := gName 2) rfl sc_are_records_of.nd (pi_list (pv 0)) (blkOk_by (own := [("one", 2)]) (N := nm_are_records_of) (sc := defScope s_are_records_of) (by decide +kernel)) (fun _ _ _ _ _ => pg_name (i := 2) sc_are_records_of.nd rfl (Or.inl rfl)) (fun _ _ _ _ _ => pts_nil) (fun _ _ _ _ _ => (pe_call G_is_record_of (hr.mono (by first | decide | omega)) rfl T.d_is_record_of.g T.d_is_record_of.F.kp b_is_record_of .nil pass0 (pa_cons (pv 2) pa_nil)))) pa_nil))))))) (pss_one (ps_ret pe_bl)) pss_nil)
      (pss_one (ps_ret (pe_callB (caAll (K := K) rfl rfl) (by rfl) T.n_all (by decide +kernel) (pa_cons (pe_lc (own := [("at", 1), ("one", 2)]) (g := (gTup K 2 (gCons (gName 1) (gCons (gName 2) gNil)))) rfl sc_are_records_of.nd (pi_enum (by rfl) T.n_enumerate (pa_cons (pv 0) pa_nil)) (blkOk_by (own := [("at", 1), ("one", 2)]) (N := nm_are_records_of) (sc := defScope s_are_records_of) (by decide +kernel)) (fun _ _ _ _ _ => pg_tup rfl (pgs_cons (pg_name (i := 1) sc_are_records_of.nd rfl (Or.inl rfl)) (pgs_cons (pg_name (i := 2) sc_are_records_of.nd rfl (Or.inl rfl)) pgs_nil))) (fun _ _ _ _ _ => pts_nil) (fun _ _ _ _ _ => (pe_call G_follows (hr.mono (by first | decide | omega)) rfl T.d_follows.g T.d_follows.F.kp b_follows .nil pass0 (pa_cons (pe_callTy (caListB (K := K) rfl rfl) (by rfl) T.n_list (by decide +kernel) (pa_cons (pe_slice (slB (K := K) rfl) (pv 0) po_none (po_some (pv 1))) pa_nil)) (pa_cons (pv 2) pa_nil))))) pa_nil))))), ?_⟩
    have hal := hA.length
    rw [List.length_map] at hal
    tm_at "rd"
    intro q1 hq1
    have s1 := same_new (o := .tup [.ty "list", .ty "tuple"]) hq1
    have hL1 := s1 _ _ hL
    have hA1 := hA.same s1
    refine b_isTL_L hL1 upd_same ?_
    generalize upd H q1 (.tup [.ty "list", .ty "tuple"]) = H1 at s1 hL1 hA1
    clear hL hA
    tm_at "rd"
    refine ⟨l, rfl, ⟨_, SqL.of hL1⟩, fun D0 hD => ?_⟩
    refine lc_gen (walk_list (K := K) (a := l) (xs := rv)) (fun _ => .bl true) (Nat.lt_of_le_of_lt (by omega : rv.length ≤ 500) (by decide)) (fun H2 s2 => SqL.of (s2 _ _ hL1)) (fun j x H2 H3 _ _ y => by rw [y.1]; exact Same.refl _) (fun j x H2 H3 hj s2 y Q3 R3 q => ?_) hD (fun H2 s2 h2 => ?_)
    · obtain ⟨rfl, hx⟩ := y
      obtain ⟨d, hd1, hd2⟩ := dp_at (hA1.same s2) hx
      rw [List.getElem?_map] at hd1
      obtain ⟨rj, ej, rfl⟩ := Option.map_eq_some_iff.mp hd1
      tm_at "rd"
      refine ⟨rfl, ?_⟩
      tm_at "rd"
      exact ⟨x, rfl, .inl ⟨rj, hd2, hok rj (List.mem_of_getElem? ej), fun H4 s4 => q _ s4⟩⟩
    have all1 : ∀ n : Nat, ((List.range n).map fun _ => true).all id = true := fun n => by
      rw [List.all_eq_true]
      intro x hx
      obtain ⟨_, _, rfl⟩ := List.mem_map.mp hx
      rfl
    tm_at "rd"
    refine ⟨D0, (List.range rv.length).map fun _ => true, rfl, SqL.of (by rw [h2, List.map_map]; rfl), ?_⟩
    rw [all1]
    have hL2 := s2 _ _ hL1
    have hA2 := hA1.same s2
    have s12 := s1.trans s2
    clear hL1 hA1 h2 hD s1 s2
    tm_at "rd"
    refine ⟨l, rv, rfl, SqL.of hL2, fun D1 hD1 => ?_⟩
    refine lc_gen (walk_enum (K := K) (a := l) (xs := rv)) (fun _ => .bl true) (Nat.lt_of_le_of_lt (by omega : rv.length ≤ 500) (by decide)) (fun H3 s3 => SqL.of (s3 _ _ hL2)) (fun j x H3 H4 _ s3 y => ?_) (fun j x H3 H4 hj s3 y Q3 R3 q => ?_) hD1 (fun H3 s3 h3 => ?_)
    · obtain ⟨T', x', y', rfl, hT, rfl, _, _⟩ := y
      exact same_new hT
    · obtain ⟨T', x', y', rfl, hT, rfl, hx, hy⟩ := y
      obtain rfl : x' = .int (j : Nat) := (Option.some.inj hx).symm
      obtain ⟨d, hd1, hd2⟩ := dp_at (hA2.same s3) hy
      rw [List.getElem?_map] at hd1
      obtain ⟨rj, ej, rfl⟩ := Option.map_eq_some_iff.mp hd1
      have sT := same_new (o := .tup [.int (j : Nat), y']) hT
      refine r_gtup (SqT.of upd_same) rfl ?_
      tm_at "rd"
      refine ⟨rfl, ?_⟩
      tm_at "rd"
      refine .inl ⟨l, rv, rfl, SqL.of (sT _ _ (s3 _ _ hL2)), fun p hp => ?_⟩
      have s5 := same_new (o := .lst (cutV rv none (some (j : Int)))) hp
      rw [cut_to] at s5 ⊢
      tm_at "rd"
      refine .inl ⟨p, _, rfl, .inl (SqL.of upd_same), fun l2 hl2 => ?_⟩
      have s6 := (sT.trans s5).trans (same_new (o := .lst (rv.take j)) hl2)
      tm_at "rd"
      refine ⟨l2, rv.take j, rs.take j, y', rj, rfl, upd_same, ?_, hd2.same s6, by rw [List.length_take]; omega, fun H4 s4 => ?_⟩
      · rw [List.map_take]
        exact Ak.DpAll.take j ((hA2.same s3).same s6)
      · rw [hsq j rj ej]
        exact q _ ((s5.trans (same_new (o := .lst (rv.take j)) hl2)).trans s4)
    · tm_at "rd"
      refine ⟨D1, (List.range rv.length).map fun _ => true, rfl, SqL.of (by rw [h3, List.map_map]; rfl), ?_⟩
      rw [all1]
      exact k _ (s12.trans s3)
def sp_recby (K : PySem.W.Frag) : Sp := fun vs H Q _ => ∃ (a : Addr) (wd : List Nat) (ps : List (List Nat)), vs = [.ref a] ∧ H a = some (.lst ((wd :: ps).map fun p => V.str (tx p))) ∧ ps.length ≤ 5000 ∧ (∀ p ∈ ps, p.length ≤ 20000) ∧
  ((∃ r, wd :: ps = fields r ∧ OkR r ∧ ∀ H' v, Same H H' → Rv K H' v r → Q v H') ∨ (badP (wd :: ps) ∧ ∀ H', Same H H' → Q .non H'))
theorem ok_record_by (T : Tx K mg) (D : Td K mg w) : FnOk P w K mg base CX0 16 T.f_record_by T.fd_record_by ["parts"] (sp_recby K) := by
  have G_number_by := ok_number_by (P := P) (w := w) (base := base) T
  have G_telling_by := ok_telling_by (P := P) (w := w) (base := base) T D
  have G_is_record_of := ok_is_record_of (P := P) (w := w) (base := base) T D
  have b_number_by := T.d_number_by.F.binds (ps := ["text"]) fun _ _ _ _ _ _ us hl => match us, hl with | [_], _ => rfl
  have b_telling_by := T.d_telling_by.F.binds (ps := ["text"]) fun _ _ _ _ _ _ us hl => match us, hl with | [_], _ => rfl
  have b_is_record_of := T.d_is_record_of.F.binds (ps := ["value"]) fun _ _ _ _ _ _ us hl => match us, hl with | [_], _ => rfl
  refine T.d_record_by.F.ok sc_record_by (fun vs H Q E h => ?_) (fun cdv A outer s H vs Q E hr h => ?_)
  · obtain ⟨a, wd, ps, rfl, _⟩ := h
    rfl
  · obtain ⟨a, wd, ps, rfl, hL, hz, hpz, h⟩ := h
    have hu := hu_of hr
    have hu64 := hr.units
    refine ⟨_, (pss_cons (ps_par (i := 1) (j := 2) rfl sc_record_by.nd rfl rfl (by decide) rfl rfl (pa_cons (pe_ix (ixAny (K := K) rfl) (pv 0) pe_int (fun _ _ => rfl)) (pa_cons (pe_slice (slB (K := K) rfl) (pv 0) (po_some pe_int) po_none) pa_nil)) (by rfl))
      (pss_cons (ps_if (pt_cmpR (opInB (K := K) rfl hu64) (pv 1) (pe_tup (pa_cons (pe_const T.c_BEGUN (by rfl)) (pa_cons (pe_const T.c_KEPT (by rfl)) pa_nil))) (by rfl)) (pss_one (ps_set (i := 3) sc_record_by.nd rfl (Or.inl rfl) (pe_op (opAddB (K := K) rfl) (pe_tup (pa_cons (pv 1) pa_nil)) (pe_callTy (caTuple (K := K) rfl) (by rfl) T.n_tuple (by decide +kernel) (pa_cons (pe_lc (own := [("one", 4)]) (g := gName 4) rfl sc_record_by.nd (pi_list (pv 2)) (blkOk_by (own := [("one", 4)]) (N := nm_record_by) (sc := defScope s_record_by) (by decide +kernel)) (fun _ _ _ _ _ => pg_name (i := 4) sc_record_by.nd rfl (Or.inl rfl)) (fun _ _ _ _ _ => pts_nil) (fun _ _ _ _ _ => (pe_call G_number_by (hr.mono (by first | decide | omega)) rfl T.d_number_by.g T.d_number_by.F.kp b_number_by .nil pass0 (pa_cons (pv 4) pa_nil)))) pa_nil))))) (pss_one (ps_if (PW.pt (pw_and (pt_cmpR (opEqB (K := K) rfl hu64) (pv 1) (pe_const T.c_ASKED (by rfl)) (nomark _)) (pw_and1 (pt_cmpR (opEqB (K := K) rfl hu64) (pe_callB (caLenB (K := K) rfl) (by rfl) T.n_len (by decide +kernel) (pa_cons (pv 2) pa_nil)) pe_int (nomark _))))) (pss_one (ps_set (i := 3) sc_record_by.nd rfl (Or.inl rfl) (pe_tup (pa_cons (pe_const T.c_ASKED (by rfl)) (pa_cons (pe_ix (ixAny (K := K) rfl) (pv 2) pe_int (fun _ _ => rfl)) (pa_cons (pe_call G_telling_by (hr.mono (by first | decide | omega)) rfl T.d_telling_by.g T.d_telling_by.F.kp b_telling_by .nil pass0 (pa_cons (pe_ix (ixAny (K := K) rfl) (pv 2) pe_int (fun _ _ => rfl)) pa_nil)) pa_nil)))))) (pss_one (ps_if (PW.pt (pw_and (pt_cmpR (opInB (K := K) rfl hu64) (pv 1) (pe_tup (pa_cons (pe_const T.c_ANSWERED (by rfl)) (pa_cons (pe_const T.c_ENDED (by rfl)) pa_nil))) (by rfl)) (pw_and1 (pt_cmpR (opEqB (K := K) rfl hu64) (pe_callB (caLenB (K := K) rfl) (by rfl) T.n_len (by decide +kernel) (pa_cons (pv 2) pa_nil)) pe_int (nomark _))))) (pss_one (ps_set (i := 3) sc_record_by.nd rfl (Or.inl rfl) (pe_tup (pa_cons (pv 1) (pa_cons (pe_call G_telling_by (hr.mono (by first | decide | omega)) rfl T.d_telling_by.g T.d_telling_by.F.kp b_telling_by .nil pass0 (pa_cons (pe_ix (ixAny (K := K) rfl) (pv 2) pe_int (fun _ _ => rfl)) pa_nil)) pa_nil))))) (pss_one (ps_ret pe_non)))))))
      (pss_one (ps_ret (pe_ifExp (PW.pt (pw_and (pt_cmpR (opNiD (K := K) rfl hu64) pe_non (pv 3) (by rfl)) (pw_and1 (pt_val (pe_call G_is_record_of (hr.mono (by first | decide | omega)) rfl T.d_is_record_of.g T.d_is_record_of.F.kp b_is_record_of .nil pass0 (pa_cons (pv 3) pa_nil)))))) (pv 3) pe_non))))), ?_⟩
    tm_at "rd"
    refine q_ix_lst (SqL.of hL) (v := .str (tx wd)) (at0 _ _) ?_
    tm_at "rd"
    refine .inl ⟨a, _, rfl, SqL.of hL, fun b hb => ?_⟩
    have ec : cutV ((wd :: ps).map fun p => V.str (tx p)) (some (1 : Int)) none = ps.map fun p => V.str (tx p) := cut_from _ 1
    rw [ec]
    have s1 := same_new (o := .lst (ps.map fun p => V.str (tx p))) hb
    have hb1 := upd_same (H := H) (a := b) (o := .lst (ps.map fun p => V.str (tx p)))
    generalize upd H b (HO.lst (ps.map fun p => V.str (tx p))) = H1 at s1 hb1
    repeat (with_reducible first | refine r_nil ?_ | refine r_name ?_ | refine r_two ?_)
    dsimp only
    have no3 : ∀ x : List Nat, ([cs "begun", cs "kept"] : List (List Nat)).contains x = true ↔ x = cs "begun" ∨ x = cs "kept" := fun x => by simp [List.contains_iff_mem]
    tm_at "rd"
    intro q1 hq1
    have s2 := s1.trans (same_new (o := .tup [.str (tx (cs "begun")), .str (tx (cs "kept"))]) hq1)
    have hb2 := same_new (o := .tup [.str (tx (cs "begun")), .str (tx (cs "kept"))]) hq1 _ _ hb1
    refine b_in_txs (ys := [cs "begun", cs "kept"]) (.inr (SqT.of upd_same)) ?_
    generalize upd H1 q1 (.tup [.str (tx (cs "begun")), .str (tx (cs "kept"))]) = H2 at s2 hb2
    by_cases hw : wd = cs "begun" ∨ wd = cs "kept"
    · rw [(no3 wd).mpr hw]
      tm_at "rd"
      intro t1 ht1
      have s3 := s2.trans (same_new (o := .tup [.str (tx wd)]) ht1)
      have hb3 := same_new (o := .tup [.str (tx wd)]) ht1 _ _ hb2
      have ht3 := upd_same (H := H2) (a := t1) (o := .tup [.str (tx wd)])
      generalize upd H2 t1 (.tup [.str (tx wd)]) = H3 at s3 hb3 ht3
      tm_at "rd"
      refine ⟨b, rfl, ⟨_, SqL.of hb3⟩, fun D0 hD => ?_⟩
      refine lc_gen (walk_list (K := K) (a := b) (xs := ps.map fun p => V.str (tx p))) (fun j => optV (numBy (ps.getD j []))) (by rw [List.length_map]; exact Nat.lt_of_le_of_lt hz (by decide)) (fun H4 s4 => SqL.of (s4 _ _ hb3)) (fun j x H4 H5 _ _ y => by rw [y.1]; exact Same.refl _) (fun j x H4 H5 hj s4 y Q3 R3 q => ?_) hD (fun H4 s4 h4 => ?_)
      · obtain ⟨rfl, hx⟩ := y
        obtain ⟨p, hp, rfl⟩ := map_at hx
        rw [List.getD_eq_getElem?_getD, hp] at q
        tm_at "rd"
        refine ⟨rfl, ?_⟩
        tm_at "rd"
        exact ⟨p, rfl, hpz p (List.mem_of_getElem? hp), fun H6 s6 => q _ s6⟩
      have e4 : (List.range (ps.map fun p => V.str (tx p)).length).map (fun j => optV (numBy (ps.getD j []))) = (ps.map numBy).map optV := by
        rw [List.length_map, List.map_map]
        apply List.ext_getElem
        · simp
        · intro i h1 h2
          simp at h1
          simp [List.getD, h1]
      rw [e4] at h4
      have s04 := s3.trans s4
      tm_at "rd"
      refine ⟨D0, _, rfl, .inl ⟨SqL.of h4, fun t2 ht2 => ?_⟩⟩
      have s5 := same_new (o := .tup ((ps.map numBy).map optV)) ht2
      have s05 := s04.trans s5
      refine b_addT (SqT.of (s5 _ _ (s4 _ _ ht3))) (SqT.of upd_same) (by simp only [List.length_map, List.length_cons, List.length_nil]; omega) fun g H6 s6 hg => ?_
      have s06 := s05.trans s6
      change SqT K H6 g (.str (tx wd) :: (ps.map numBy).map optV) at hg
      have hlow : wd.all (fun c => decide (c < 128)) = true := by rcases hw with rfl | rfl <;> decide
      tm_at "rd"
      refine ⟨.none, .str (tx wd) :: (ps.map numBy).map optD, .non, .tup hg (.cons (.str _) (opts_dp _)), by decide, shaped_wd hlow (opts_lay _) (by rw [opts_depth]; omega), ?_⟩
      rw [List.any_cons, show PyData.eqv (.str (tx wd)) .none = false from rfl, Bool.false_or, any_none]
      cases hn : (ps.map numBy).any Option.isNone with
      | true =>
        tm_at "rd"
        rcases h with ⟨r, hr2, ok, _⟩ | ⟨_, k⟩
        · exfalso
          cases r with
          | begun n =>
            have e := (List.cons.inj hr2).2
            subst e
            rw [show [numL n].map numBy = [some n] by simp [numBy_num ok]] at hn
            cases hn
          | kept x y =>
            have e := (List.cons.inj hr2).2
            subst e
            rw [show [numL x, numL y].map numBy = [some x, some y] by simp [numBy_num ok.1, numBy_num ok.2]] at hn
            cases hn
          | asked nm t =>
            have e := (List.cons.inj hr2).1
            rw [e] at hw
            exact absurd hw (by decide)
          | answered t =>
            have e := (List.cons.inj hr2).1
            rw [e] at hw
            exact absurd hw (by decide)
        · exact k _ s06
      | false =>
        tm_at "rd"
        rcases h with ⟨r, hr2, ok, k⟩ | ⟨hbad, k⟩
        · have hRv : Rv K H6 (.ref g) r := by
            cases r with
            | begun n =>
              have e := List.cons.inj hr2
              obtain ⟨e1, e2⟩ := e
              subst e1 e2
              refine .tup hg ?_
              rw [show [numL n].map numBy = [some n] by simp [numBy_num ok]]
              exact .cons (.str _) (.cons (.int _) .nil)
            | kept x y =>
              obtain ⟨e1, e2⟩ := List.cons.inj hr2
              subst e1 e2
              refine .tup hg ?_
              rw [show [numL x, numL y].map numBy = [some x, some y] by simp [numBy_num ok.1, numBy_num ok.2]]
              exact .cons (.str _) (.cons (.int _) (.cons (.int _) .nil))
            | asked nm t =>
              have e := (List.cons.inj hr2).1
              rw [e] at hw
              exact absurd hw (by decide)
            | answered t =>
              have e := (List.cons.inj hr2).1
              rw [e] at hw
              exact absurd hw (by decide)
          refine ⟨.ref g, rfl, .inl ⟨r, hRv, ok, fun H7 s7 => ?_⟩⟩
          tm_at "rd"
          exact k _ _ (s06.trans s7) (hRv.same s7)
        · refine ⟨.ref g, rfl, .inr ⟨g, _, wd, rfl, hg, ?_, fun H7 s7 => ?_⟩⟩
          · rw [List.length_map, List.length_map]
            rcases hbad with ⟨e, hl⟩ | ⟨e, hl⟩ | ⟨e, hl⟩ | ⟨e, hl⟩
            · exact .inl ⟨e, hl⟩
            · exact .inr ⟨e, hl⟩
            · rw [e] at hw; exact absurd hw (by decide)
            · rw [e] at hw; exact absurd hw (by decide)
          · tm_at "rd"
            exact k _ (s06.trans s7)
    · rw [show ([cs "begun", cs "kept"] : List (List Nat)).contains wd = false from Bool.eq_false_iff.mpr fun h => hw ((no3 wd).mp h)]
      have four : (∃ nm t, wd = cs "asked" ∧ ps = [nm, word t] ∧ OkR (.asked nm t) ∧ ∀ H' v, Same H H' → Rv K H' v (.asked nm t) → Q v H') ∨ (wd = cs "asked" ∧ ps.length ≠ 2 ∧ ∀ H', Same H H' → Q .non H') ∨
          (∃ t, wd = cs "answered" ∧ ps = [word t] ∧ OkR (.answered t) ∧ ∀ H' v, Same H H' → Rv K H' v (.answered t) → Q v H') ∨ (wd = cs "answered" ∧ ps.length ≠ 1 ∧ ∀ H', Same H H' → Q .non H') := by
        rcases h with ⟨r, hr2, ok, k⟩ | ⟨hbad, k⟩
        · cases r with
          | begun n => exact absurd (.inl (List.cons.inj hr2).1) hw
          | kept x y => exact absurd (.inr (List.cons.inj hr2).1) hw
          | asked nm t => exact .inl ⟨nm, t, (List.cons.inj hr2).1, (List.cons.inj hr2).2, ok, k⟩
          | answered t => exact .inr (.inr (.inl ⟨t, (List.cons.inj hr2).1, (List.cons.inj hr2).2, ok, k⟩))
        · rcases hbad with ⟨e, hl⟩ | ⟨e, hl⟩ | ⟨e, hl⟩ | ⟨e, hl⟩
          · exact absurd (.inl e) hw
          · exact absurd (.inr e) hw
          · exact .inr (.inl ⟨e, hl, k⟩)
          · exact .inr (.inr (.inr ⟨e, hl, k⟩))
      clear h hL
      tm_at "rd"
      rcases four with ⟨nm, t, rfl, rfl, ok, k⟩ | ⟨rfl, hl, k⟩ | ⟨t, rfl, rfl, ok, k⟩ | ⟨rfl, hl, k⟩
      · refine bd_t rfl ?_
        tm_at "rd"
        refine q_lenB_lst (SqL.of hb2) ?_
        tm_at "rdw"
        refine q_ix_lst (SqL.of hb2) (v := .str (tx nm)) rfl ?_
        tm_at "rd"
        refine q_ix_lst (SqL.of hb2) (v := .str (tx (word t))) rfl ?_
        tm_at "rd"
        have hws := word_small ok.2.1 ok.2.2
        refine ⟨t, rfl, ok.2.1, by have := ok.2.2; omega, by omega, fun H3 v3 s3 hv3 => ?_⟩
        tm_at "rd"
        intro g hg
        have s4 := same_new (o := .tup [.str (tx (cs "asked")), .str (tx nm), v3]) hg
        have hv4 := hv3.same s4
        have hg4 := upd_same (H := H3) (a := g) (o := .tup [.str (tx (cs "asked")), .str (tx nm), v3])
        generalize upd H3 g (.tup [.str (tx (cs "asked")), .str (tx nm), v3]) = H4 at s4 hv4 hg4
        have s04 := (s2.trans s3).trans s4
        have hlow : nm.all (fun c => decide (c < 128)) = true := by
          have := ok.1
          simp only [asks, List.mem_cons, List.not_mem_nil, or_false] at this
          rcases this with rfl | rfl | rfl <;> decide
        have hRv : Rv K H4 (.ref g) (.asked nm t) := .tup (SqT.of hg4) (.cons (.str _) (.cons (.str _) (.cons hv4 .nil)))
        tm_at "rd"
        refine ⟨.none, [.str (tx (cs "asked")), .str (tx nm), tlD t], .non, hRv, by decide, shaped_wd (by decide) (by simp only [PyData.canLayAll0, PyData.canLay0, strOk_tx hlow, canLay_tl]; rfl) (by have := depth_tl t; have := ok.2.2; simp only [PyData.depthAll, PyData.depth]; omega), ?_⟩
        rw [show ([.str (tx (cs "asked")), .str (tx nm), tlD t] : List PyData).any (fun z => PyData.eqv z .none) = false by simp only [List.any_cons, List.any_nil, eqv_tl_none]; rfl]
        tm_at "rd"
        refine ⟨.ref g, rfl, .inl ⟨_, hRv, ok, fun H7 s7 => ?_⟩⟩
        tm_at "rd"
        exact k _ _ (s04.trans s7) (hRv.same s7)
      · refine bd_t rfl ?_
        tm_at "rd"
        refine q_lenB_lst (SqL.of hb2) ?_
        tm_at "rd"
        refine bd_f (by rw [List.length_map]; omega) ?_
        tm_at "rd"
        intro q3 hq3
        refine b_in_txs (ys := [cs "answered", cs "ended"]) (.inr (SqT.of upd_same)) ?_
        rw [show ([cs "answered", cs "ended"] : List (List Nat)).contains (cs "asked") = false by decide]
        tm_at "rd"
        exact k _ (s2.trans (same_new hq3))
      · tm_at "rdw"
        intro q3 hq3
        refine b_in_txs (ys := [cs "answered", cs "ended"]) (.inr (SqT.of upd_same)) ?_
        rw [show ([cs "answered", cs "ended"] : List (List Nat)).contains (cs "answered") = true by decide]
        have s3 := s2.trans (same_new (o := .tup [.str (tx (cs "answered")), .str (tx (cs "ended"))]) hq3)
        have hb3 := same_new (o := .tup [.str (tx (cs "answered")), .str (tx (cs "ended"))]) hq3 _ _ hb2
        generalize upd H2 q3 (.tup [.str (tx (cs "answered")), .str (tx (cs "ended"))]) = H3 at s3 hb3
        tm_at "rd"
        refine q_lenB_lst (SqL.of hb3) ?_
        tm_at "rdw"
        refine q_ix_lst (SqL.of hb3) (v := .str (tx (word t))) rfl ?_
        tm_at "rd"
        have hws := word_small ok.1 ok.2
        refine ⟨t, rfl, ok.1, by have := ok.2; omega, by omega, fun H4 v4 s4 hv4 => ?_⟩
        tm_at "rd"
        intro g hg
        have s5 := same_new (o := .tup [.str (tx (cs "answered")), v4]) hg
        have hv5 := hv4.same s5
        have hg5 := upd_same (H := H4) (a := g) (o := .tup [.str (tx (cs "answered")), v4])
        generalize upd H4 g (.tup [.str (tx (cs "answered")), v4]) = H5 at s5 hv5 hg5
        have s05 := (s3.trans s4).trans s5
        have hRv : Rv K H5 (.ref g) (.answered t) := .tup (SqT.of hg5) (.cons (.str _) (.cons hv5 .nil))
        tm_at "rd"
        refine ⟨.none, [.str (tx (cs "answered")), tlD t], .non, hRv, by decide, shaped_wd (by decide) (by simp only [PyData.canLayAll0, canLay_tl]; rfl) (by have := depth_tl t; have := ok.2; simp only [PyData.depthAll]; omega), ?_⟩
        rw [show ([.str (tx (cs "answered")), tlD t] : List PyData).any (fun z => PyData.eqv z .none) = false by simp only [List.any_cons, List.any_nil, eqv_tl_none]; rfl]
        tm_at "rd"
        refine ⟨.ref g, rfl, .inl ⟨_, hRv, ok, fun H7 s7 => ?_⟩⟩
        tm_at "rd"
        exact k _ _ (s05.trans s7) (hRv.same s7)
      · tm_at "rdw"
        intro q3 hq3
        refine b_in_txs (ys := [cs "answered", cs "ended"]) (.inr (SqT.of upd_same)) ?_
        rw [show ([cs "answered", cs "ended"] : List (List Nat)).contains (cs "answered") = true by decide]
        have s3 := s2.trans (same_new (o := .tup [.str (tx (cs "answered")), .str (tx (cs "ended"))]) hq3)
        have hb3 := same_new (o := .tup [.str (tx (cs "answered")), .str (tx (cs "ended"))]) hq3 _ _ hb2
        generalize upd H2 q3 (.tup [.str (tx (cs "answered")), .str (tx (cs "ended"))]) = H3 at s3 hb3
        tm_at "rd"
        refine q_lenB_lst (SqL.of hb3) ?_
        tm_at "rd"
        refine bd_f (by rw [List.length_map]; omega) ?_
        exact k _ s3
end
end K68

set_option maxHeartbeats 4000000
/-! W68k: lines read. -/
namespace K68
open PySem PySem.Spec PyProof.Rows L2 TL Ak Kd Jn
local macro_rules | `(tactic| tm_at "rd1") => `(tactic| with_reducible first
  | refine r_seq ?_ | refine r_ifS ?_ | refine r_ret ?_ | refine r_asg ?_ | refine r_next ?_ | refine r_drop ?_ | refine r_par ?_ | refine r_brk ?_ | refine r_cont ?_
  | refine r_op ?_ | refine r_c ?_ | refine r_cb ?_ | refine r_cons ?_ | refine r_nil ?_ | refine r_un ?_ | refine r_tB ?_ | refine r_test ?_ | refine r_not ?_ | refine r_and ?_ | refine r_or ?_ | refine r_andV ?_ | refine r_orV ?_ | refine r_notV ?_ | refine r_if ?_ | refine r_chain ?_
  | refine r_tup ?_ | refine r_lst ?_ | refine r_lstN ?_ | refine r_sl ?_ | refine r_part ?_ | refine r_nopart ?_ | refine r_call ?_ | refine r_callK ?_ | refine r_bm ?_ | refine r_bm0 ?_ | refine r_m1 ?_ | refine r_m0 ?_ | refine r_isN ?_ | refine r_notN ?_
  | refine r_gcons ?_ | refine r_gnil ?_ | refine r_gsub ?_ | refine r_name ?_ | refine r_ilist ?_ | refine r_itup ?_ | refine r_istr ?_ | refine r_irng1 ?_ | refine r_ienum ?_ | refine r_mko ?_ | refine r_yes ?_ | refine r_lc ?_ | refine r_for ?_ | refine turn_i ?_
  | refine r_dput ?_ | refine r_dget ?_ | refine r_izipA ?_ | refine r_ienumT ?_ | refine r_back ?_ | refine r_dsetd ?_ | refine r_dgetN ?_ | refine r_dnotinN ?_ | refine r_isTr ?_ | refine r_lockAsg ?_ | refine r_bl ?_ | refine r_int ?_ | refine r_two ?_ | refine r_str ?_ | refine r_two1 ?_
  | refine b_t ?_ | refine b_f ?_ | refine b_nt ?_ | refine b_nf ?_ | refine q_u ?_ | refine q_i0 ?_ | refine q_ipI ?_ | refine b_add_int ?_ | refine b_eq_int ?_ | refine b_ne_int ?_ | refine b_eq_tx ?_ | refine b_ne_tx ?_ | refine b_in_sg ?_ | refine q_ni_sg ?_)
local macro_rules | `(tactic| tm_at "rd2") => `(tactic| first
  | tm_at "rd1" | refine r_var rfl ?_ | refine r_aug rfl ?_ 
  | refine And.intro (small_n (by simp)) ?_ | tm_at "rdl" | tm_at "rdk")
local macro_rules | `(tactic| tm_at "rdk") => `(tactic| with_reducible first | refine b_isStrV ?_ | refine b_isBlV ?_ | refine b_isIntV ?_ | refine b_isIntB ?_ | refine b_isTupS (by assumption) ?_ | refine b_isTup (by assumption) ?_ | refine b_isInt (by assumption) ?_ | refine b_isBl (by assumption) ?_ | refine b_isStr (by assumption) ?_ | refine b_isLst (by assumption) ?_)
local macro_rules | `(tactic| tm_at "rdl") => `(tactic| first | (with_reducible refine q_len_tx (by assumption) ?_) | (with_reducible refine q_len_tx (by omega) ?_) | (with_reducible refine q_lenB_tx (by assumption) ?_) | (with_reducible refine q_lenB_tx (by omega) ?_))
local macro_rules | `(tactic| tm_at "rd") => `(tactic| repeat tm_at "rd2")
local macro_rules | `(tactic| tm_at "rdw") => `(tactic| repeat (first | tm_at "rd2" | with_reducible refine bd_t rfl ?_ | with_reducible refine bd_f (by decide) ?_ | with_reducible refine bnd_f rfl ?_ | with_reducible refine bnd_t (by decide) ?_))

theorem cut_mid (xs : List V) (h : 2 ≤ xs.length) : cutV xs (some (1 : Int)) (some (-1)) = xs.dropLast.drop 1 := by
  unfold cutV
  rw [show HT.sIx xs.length 0 (some (1 : Int)) = 1 from by have := HT.sIx_nat xs.length 0 1; rw [show ((1 : Nat) : Int) = 1 from rfl] at this; rw [this]; omega]
  rw [show HT.sIx xs.length xs.length (some (-1)) = xs.length - 1 from by unfold HT.sIx; simp; omega]
  rw [List.dropLast_eq_take, List.drop_take]
theorem join_app {q : List Nat} : ∀ {ps : List (List Nat)}, ps ≠ [] → joinS (ps ++ [q]) = joinS ps ++ 32 :: q
  | [], h => absurd rfl h
  | [p], _ => rfl
  | p :: p2 :: ps, _ => by
    have := join_app (q := q) (ps := p2 :: ps) (by simp)
    show p ++ 32 :: joinS ((p2 :: ps) ++ [q]) = (p ++ 32 :: joinS (p2 :: ps)) ++ 32 :: q
    rw [this]
    simp
section
variable {P : Program} {w : World} {K : PySem.W.Frag} {mg : Str → Option Value} {base : Heap}
def sp_recin (K : PySem.W.Frag) : Sp := fun vs H Q _ => ∃ (n : Nat) (l : List Nat), vs = [.int (n : Nat), .str (tx l)] ∧ n < 10 ^ 12 ∧ l.length ≤ 4000 ∧
  ((∃ r, l = lineB n r ∧ OkR r ∧ ∀ H' v, Same H H' → Rv K H' v r → Q v H') ∨ (Bad n l ∧ ∀ H', Same H H' → Q .non H'))
theorem split_count (l : List Nat) : (splitS l).length ≤ l.length + 1 := by
  have := join_len (split_ne l)
  rw [join_split] at this
  omega
theorem len_sum {p : List Nat} : ∀ {ps : List (List Nat)}, p ∈ ps → p.length + ps.length ≤ (ps.map (·.length)).sum + ps.length
  | q :: qs, h => by
    rw [List.map_cons, List.sum_cons]
    rcases List.mem_cons.mp h with rfl | h
    · omega
    · have := len_sum h
      simp only [List.length_cons]
      omega
theorem split_each (l : List Nat) : ∀ p ∈ splitS l, p.length ≤ l.length := fun p hp => by
  have h1 := join_len (split_ne l)
  have h2 := len_sum hp
  rw [h1, join_split] at h2
  have h3 : 0 < (splitS l).length := List.length_pos_iff.mpr (split_ne l)
  omega
theorem ok_record_in (T : Tx K mg) (D : Td K mg w) : FnOk P w K mg base CX0 17 T.f_record_in T.fd_record_in ["number", "line"] (sp_recin K) := by
  have G_sum_of_signs := ok_sum_of_signs (P := P) (w := w) (base := base) T
  have G_record_by := ok_record_by (P := P) (w := w) (base := base) T D
  have b_sum_of_signs := T.d_sum_of_signs.F.binds (ps := ["text"]) fun _ _ _ _ _ _ us hl => match us, hl with | [_], _ => rfl
  have b_record_by := T.d_record_by.F.binds (ps := ["parts"]) fun _ _ _ _ _ _ us hl => match us, hl with | [_], _ => rfl
  refine T.d_record_in.F.ok sc_record_in (fun vs H Q E h => ?_) (fun cdv A outer s H vs Q E hr h => ?_)
  · obtain ⟨n, l, rfl, _⟩ := h
    rfl
  · obtain ⟨n, l, rfl, hn, hl, h⟩ := h
    have hu := hu_of hr
    have hu64 := hr.units
    refine ⟨_, (pss_cons (ps_set (i := 2) sc_record_in.nd rfl (Or.inl rfl) (pe_split (pv 1) (pe_lit " ")))
      (pss_cons (ps_if (PW.pt (pw_or (pt_cmpR op_lt (pe_callB (caLenB (K := K) rfl) (by rfl) T.n_len (by decide +kernel) (pa_cons (pv 2) pa_nil)) pe_int (nomark _)) (pw_or1 (pt_cmpR (opNeB (K := K) rfl hu64) (pe_ix (ixAny (K := K) rfl) (pv 2) pe_int (fun _ _ => rfl)) (pe_callTy call_str_int (by rfl) T.n_str (by decide +kernel) (pa_cons (pv 0) pa_nil)) (nomark _))))) (pss_one (ps_ret pe_non)) pss_nil)
      (pss_cons (ps_set (i := 3) sc_record_in.nd rfl (Or.inl rfl) (pe_joinK (K := K) rfl (pe_lit " ") (pe_slice (slB (K := K) rfl) (pv 2) po_none (po_some (pe_un un_neg pe_int)))))
      (pss_one (ps_ret (pe_ifExp (pt_cmpR (opEqB (K := K) rfl hu64) (pe_ix (ixAny (K := K) rfl) (pv 2) (pe_un un_neg pe_int) (fun _ _ => rfl)) (pe_callTy call_str_int (by rfl) T.n_str (by decide +kernel) (pa_cons (pe_call G_sum_of_signs (hr.mono (by first | decide | omega)) rfl T.d_sum_of_signs.g T.d_sum_of_signs.F.kp b_sum_of_signs .nil pass0 (pa_cons (pv 3) pa_nil)) pa_nil)) (nomark _)) (pe_call G_record_by (hr.mono (by first | decide | omega)) rfl T.d_record_by.g T.d_record_by.F.kp b_record_by .nil pass0 (pa_cons (pe_slice (slB (K := K) rfl) (pv 2) (po_some pe_int) (po_some (pe_un un_neg pe_int))) pa_nil)) pe_non)))))), ?_⟩
    have hsc := split_count l
    have hse := split_each l
    have e12 : (10 : Nat) ^ 12 < 2 ^ 40 := by decide
    tm_at "rd"
    refine ⟨tx l, tx [32], rfl, rfl, rfl, by rw [len_tx]; exact Nat.le_trans (by omega : l.length + 2 ≤ 5000) (by decide), fun a ha => ?_⟩
    rw [split1, strs_tx]
    have s1 := same_new (o := .lst ((splitS l).map fun p => V.str (tx p))) ha
    have h1 := upd_same (H := H) (a := a) (o := .lst ((splitS l).map fun p => V.str (tx p)))
    generalize upd H a (.lst ((splitS l).map fun p => V.str (tx p))) = H1 at s1 h1
    have hgood : ∀ r, l = lineB n r → OkR r → splitS l = (numL n :: fields r) ++ [numL (Jn.sum (head n r))] := fun r e ok => by rw [e]; exact line_split ok
    generalize hsp : splitS l = sp at *
    clear ha
    tm_at "rd"
    refine q_lenB_lst (SqL.of h1) ?_
    rw [List.length_map]
    tm_at "rd"
    refine bd (fun c1 => ?_) (fun c1 => ?_)
    · tm_at "rd"
      rcases h with ⟨r, e, ok, k⟩ | ⟨_, k⟩
      · exfalso
        have := hgood r e ok
        rw [this] at c1
        cases r <;> simp [fields] at c1
      · exact k _ s1
    have c1' : 4 ≤ sp.length := by omega
    obtain ⟨p0, mid, last, rfl, hmid⟩ : ∃ p0 mid last, sp = (p0 :: mid) ++ [last] ∧ 2 ≤ mid.length := by
      match sp, c1' with
      | p0 :: p1 :: p2 :: rest, h4 =>
        rcases List.eq_nil_or_concat (p1 :: p2 :: rest) with e | ⟨mid, last, e⟩
        · cases e
        · rw [List.concat_eq_append] at e
          refine ⟨p0, mid, last, by rw [e]; rfl, ?_⟩
          have := congrArg List.length e
          simp only [List.length_append, List.length_cons, List.length_nil] at this h4
          omega
    have h1' : H1 a = some (.lst (V.str (tx p0) :: (mid.map (fun p => V.str (tx p)) ++ [V.str (tx last)]))) := by rw [h1]; simp
    tm_at "rd"
    refine q_ix_lst (SqL.of h1') (at0 _ _) ?_
    tm_at "rd"
    refine ⟨n, rfl, log_le (n := 40) (by rw [Int.natAbs_natCast]; omega) (by decide), ?_⟩
    rw [num_tx, dig_nat]
    tm_at "rd"
    refine bnd (fun c2 => ?_) (fun c2 => ?_)
    · tm_at "rd"
      rcases h with ⟨r, e, ok, k⟩ | ⟨_, k⟩
      · have := hgood r e ok
        exact absurd (by have := congrArg List.head? this; simpa using this) c2
      · exact k _ s1
    subst c2
    have hne : (numL n :: mid) ≠ [] := by simp
    have hjl : joinS (numL n :: mid) ++ 32 :: last = l := by rw [← join_app hne, ← hsp, join_split]
    have hjle : (joinS (numL n :: mid)).length ≤ l.length := by
      have := congrArg List.length hjl
      simp only [List.length_append, List.length_cons] at this
      omega
    have hjn := join_len hne
    have h1c : H1 a = some (.lst ((numL n :: mid).map (fun p => V.str (tx p)) ++ [V.str (tx last)])) := by rw [h1]; simp
    have ed : ((numL n :: mid).map (fun p => V.str (tx p)) ++ [V.str (tx last)]).dropLast = (numL n :: mid).map fun p => V.str (tx p) := List.dropLast_concat
    have hmidg : ∀ r, l = lineB n r → OkR r → mid = fields r ∧ last = numL (Jn.sum (head n r)) := fun r e ok => by
      have h := hgood r e ok
      have h2 := List.append_inj' h rfl
      exact ⟨(List.cons.inj h2.1).2, (List.cons.inj h2.2).1⟩
    tm_at "rd"
    refine .inl ⟨a, _, rfl, SqL.of h1c, fun b hb => ?_⟩
    rw [cut_last, ed]
    have s2 := same_new (o := .lst ((numL n :: mid).map fun p => V.str (tx p))) hb
    have h2c := s2 _ _ h1c
    have hb2 := upd_same (H := H1) (a := b) (o := .lst ((numL n :: mid).map fun p => V.str (tx p)))
    generalize upd H1 b (.lst ((numL n :: mid).map fun p => V.str (tx p))) = H2 at s2 h2c hb2
    refine ⟨tx [32], b, (numL n :: mid).map tx, rfl, rfl, .inl (SqL.of (by rw [hb2, strs_tx])), ?_, ?_⟩
    · rw [sum_tx, List.length_map, show (tx [32]).length = 1 from rfl, Nat.mul_one]
      exact Nat.le_trans (Nat.le_of_eq hjn) (by omega)
    rw [join1]
    tm_at "rd"
    refine q_ix_lst (SqL.of h2c) (atI_last _ _) ?_
    tm_at "rd"
    refine ⟨joinS (numL n :: mid), rfl, by omega, fun H3 s3 => ?_⟩
    have hslt := sum_lt (joinS (numL n :: mid))
    have e30 : (99460729 : Nat) < 2 ^ 30 := by decide
    tm_at "rd"
    refine ⟨_, rfl, log_le (n := 30) (by rw [Int.natAbs_natCast]; omega) (by decide), ?_⟩
    rw [num_tx, dig_nat]
    have h3c := s3 _ _ h2c
    have s03 := (s1.trans s2).trans s3
    tm_at "rd"
    refine bd (fun c3 => ?_) (fun c3 => ?_)
    · tm_at "rd"
      refine .inl ⟨a, _, rfl, SqL.of h3c, fun b2 hb2' => ?_⟩
      rw [cut_mid _ (by simp), ed, show ((numL n :: mid).map fun p => V.str (tx p)).drop 1 = mid.map fun p => V.str (tx p) from rfl]
      have s4 := s03.trans (same_new (o := .lst (mid.map fun p => V.str (tx p))) hb2')
      obtain ⟨wd, ps, rfl⟩ : ∃ wd ps, mid = wd :: ps := by
        cases mid with
        | nil => simp at hmid
        | cons x xs => exact ⟨x, xs, rfl⟩
      simp only [List.length_append, List.length_cons, List.length_nil] at hsc
      tm_at "rd"
      refine ⟨b2, wd, ps, rfl, upd_same, by omega, fun p hp => Nat.le_trans (hse p (by simp [hp])) (by omega), ?_⟩
      rcases h with ⟨r, e, ok, k⟩ | ⟨hbad, k⟩
      · exact .inl ⟨r, (hmidg r e ok).1, ok, fun H5 v5 s5 hv5 => k _ _ (s4.trans s5) hv5⟩
      · refine .inr ⟨?_, fun H5 s5 => k _ (s4.trans s5)⟩
        unfold Bad at hbad
        rw [hsp, List.dropLast_concat, List.getLast?_concat] at hbad
        rcases hbad with hb1 | hb1 | hb1 | hb1
        · exact absurd hb1 (by omega)
        · exact absurd rfl hb1
        · exact absurd (by rw [c3]) hb1
        · exact hb1
    · tm_at "rd"
      rcases h with ⟨r, e, ok, k⟩ | ⟨_, k⟩
      · obtain ⟨e1, e2⟩ := hmidg r e ok
        exact absurd (by rw [e2, e1]; rfl) c3
      · exact k _ s03
end
end K68

set_option maxHeartbeats 4000000
/-! W68l: journals read. -/
namespace K68
open PySem PySem.Spec PyProof.Rows L2 TL Ak Kd Jn
local macro_rules | `(tactic| tm_at "rd1") => `(tactic| with_reducible first
  | refine r_seq ?_ | refine r_ifS ?_ | refine r_ret ?_ | refine r_asg ?_ | refine r_next ?_ | refine r_drop ?_ | refine r_par ?_ | refine r_brk ?_ | refine r_cont ?_
  | refine r_op ?_ | refine r_c ?_ | refine r_cb ?_ | refine r_cons ?_ | refine r_nil ?_ | refine r_un ?_ | refine r_tB ?_ | refine r_test ?_ | refine r_not ?_ | refine r_and ?_ | refine r_or ?_ | refine r_andV ?_ | refine r_orV ?_ | refine r_notV ?_ | refine r_if ?_ | refine r_chain ?_
  | refine r_tup ?_ | refine r_lst ?_ | refine r_lstN ?_ | refine r_sl ?_ | refine r_part ?_ | refine r_nopart ?_ | refine r_call ?_ | refine r_callK ?_ | refine r_bm ?_ | refine r_bm0 ?_ | refine r_m1 ?_ | refine r_m0 ?_ | refine r_isN ?_ | refine r_notN ?_
  | refine r_gcons ?_ | refine r_gnil ?_ | refine r_gsub ?_ | refine r_name ?_ | refine r_ilist ?_ | refine r_itup ?_ | refine r_istr ?_ | refine r_irng1 ?_ | refine r_ienum ?_ | refine r_mko ?_ | refine r_yes ?_ | refine r_lc ?_ | refine r_for ?_ | refine turn_i ?_
  | refine r_dput ?_ | refine r_dget ?_ | refine r_izipA ?_ | refine r_ienumT ?_ | refine r_back ?_ | refine r_dsetd ?_ | refine r_dgetN ?_ | refine r_dnotinN ?_ | refine r_isTr ?_ | refine r_lockAsg ?_ | refine r_bl ?_ | refine r_int ?_ | refine r_two ?_ | refine r_str ?_ | refine r_two1 ?_
  | refine b_t ?_ | refine b_f ?_ | refine b_nt ?_ | refine b_nf ?_ | refine q_u ?_ | refine q_i0 ?_ | refine q_ipI ?_ | refine b_add_int ?_ | refine b_eq_int ?_ | refine b_ne_int ?_ | refine b_eq_tx ?_ | refine b_ne_tx ?_ | refine b_in_sg ?_ | refine q_ni_sg ?_)
local macro_rules | `(tactic| tm_at "rd2") => `(tactic| first
  | tm_at "rd1" | refine r_var rfl ?_ | refine r_aug rfl ?_ 
  | refine And.intro (small_n (by simp)) ?_ | tm_at "rdl" | tm_at "rdk")
local macro_rules | `(tactic| tm_at "rdk") => `(tactic| with_reducible first | refine b_isStrV ?_ | refine b_isBlV ?_ | refine b_isIntV ?_ | refine b_isIntB ?_ | refine b_isTupS (by assumption) ?_ | refine b_isTup (by assumption) ?_ | refine b_isInt (by assumption) ?_ | refine b_isBl (by assumption) ?_ | refine b_isStr (by assumption) ?_ | refine b_isLst (by assumption) ?_)
local macro_rules | `(tactic| tm_at "rdl") => `(tactic| first | (with_reducible refine q_len_tx (by assumption) ?_) | (with_reducible refine q_len_tx (by omega) ?_) | (with_reducible refine q_lenB_tx (by assumption) ?_) | (with_reducible refine q_lenB_tx (by omega) ?_))
local macro_rules | `(tactic| tm_at "rd") => `(tactic| repeat tm_at "rd2")
local macro_rules | `(tactic| tm_at "rdw") => `(tactic| repeat (first | tm_at "rd2" | with_reducible refine bd_t rfl ?_ | with_reducible refine bd_f (by decide) ?_ | with_reducible refine bnd_f rfl ?_ | with_reducible refine bnd_t (by decide) ?_))

theorem join_mem {c : Nat} : ∀ {ps : List (List Nat)}, c ∈ joinS ps → c = 32 ∨ ∃ p ∈ ps, c ∈ p
  | [], h => by cases h
  | [p], h => .inr ⟨p, by simp, h⟩
  | p :: q :: ps, h => by
    rcases List.mem_append.mp h with h | h
    · exact .inr ⟨p, by simp, h⟩
    · rcases List.mem_cons.mp h with h | h
      · exact .inl h
      · rcases join_mem (ps := q :: ps) h with h | ⟨x, hx, hc⟩
        · exact .inl h
        · exact .inr ⟨x, List.mem_cons_of_mem _ hx, hc⟩
theorem num_no10 {n : Nat} : 10 ∉ numL n := fun h => by have := num_dig h; omega
theorem field_low {r : Rec} (ok : OkR r) : ∀ p ∈ fields r, ∀ c ∈ p, 33 ≤ c ∧ c < 128 := by
  have hn : ∀ n, ∀ c ∈ numL n, 33 ≤ c ∧ c < 128 := fun n c h => by have := num_dig h; omega
  have hw : ∀ t, ∀ c ∈ word t, 33 ≤ c ∧ c < 128 := fun t c h => by
    have := word_w h
    simp only [isW, Bool.or_eq_true, decide_eq_true_eq, beq_iff_eq] at this
    omega
  have ha : ∀ nm ∈ asks, ∀ c ∈ nm, 33 ≤ c ∧ c < 128 := by decide
  intro p hp
  cases r with
  | begun n =>
    simp only [fields, List.mem_cons, List.not_mem_nil, or_false] at hp
    rcases hp with rfl | rfl
    · decide
    · exact hn _
  | kept a b =>
    simp only [fields, List.mem_cons, List.not_mem_nil, or_false] at hp
    rcases hp with rfl | rfl | rfl
    · decide
    · exact hn _
    · exact hn _
  | asked nm t =>
    simp only [fields, List.mem_cons, List.not_mem_nil, or_false] at hp
    rcases hp with rfl | rfl | rfl
    · decide
    · exact ha _ ok.1
    · exact hw _
  | answered t =>
    simp only [fields, List.mem_cons, List.not_mem_nil, or_false] at hp
    rcases hp with rfl | rfl
    · decide
    · exact hw _
theorem line_low {n : Nat} {r : Rec} (ok : OkR r) : ∀ c ∈ lineB n r, 32 ≤ c ∧ c < 128 := by
  intro c hc
  unfold lineB at hc
  rcases List.mem_append.mp hc with hc | hc
  · rcases join_mem hc with rfl | ⟨p, hp, hcp⟩
    · omega
    · rcases List.mem_cons.mp hp with rfl | hp
      · have := num_dig hcp; omega
      · have := field_low ok p hp c hcp; omega
  · rcases List.mem_cons.mp hc with rfl | hc
    · omega
    · have := num_dig hc; omega
theorem line_no10 {n : Nat} {r : Rec} (ok : OkR r) : 10 ∉ lineB n r := fun h => by have := line_low ok 10 h; omega
theorem lines_app (a b : List Rec) : ∀ n, linesFrom n (a ++ b) = linesFrom n a ++ linesFrom (n + a.length) b := by
  induction a with
  | nil => intro n; rfl
  | cons r a ih =>
    intro n
    show line n r ++ linesFrom (n + 1) (a ++ b) = (line n r ++ linesFrom (n + 1) a) ++ linesFrom (n + (a.length + 1)) b
    rw [ih, List.append_assoc, show n + 1 + a.length = n + (a.length + 1) by omega]
theorem take_split {rs : List Rec} {i : Nat} {r : Rec} (h : rs[i]? = some r) : rs = rs.take i ++ r :: rs.drop (i + 1) ∧ (rs.take i).length = i := by
  have hi : i < rs.length := by
    rcases Nat.lt_or_ge i rs.length with h' | h'
    · exact h'
    · rw [List.getElem?_eq_none h'] at h; cases h
  refine ⟨?_, by rw [List.length_take]; omega⟩
  rw [List.getElem?_eq_getElem hi] at h
  rw [← Option.some.inj h]
  simp
theorem lines_at {rs : List Rec} {i : Nat} {r : Rec} (h : rs[i]? = some r) : linesFrom 0 rs = linesFrom 0 (rs.take i) ++ (lineB i r ++ 10 :: linesFrom (i + 1) (rs.drop (i + 1))) := by
  obtain ⟨e, el⟩ := take_split h
  have := lines_app (rs.take i) (r :: rs.drop (i + 1)) 0
  rw [← e, el, Nat.zero_add] at this
  rw [this]
  show linesFrom 0 (rs.take i) ++ (line i r ++ linesFrom (i + 1) (rs.drop (i + 1))) = _
  simp [line]
theorem lines_succ {rs : List Rec} {i : Nat} {r : Rec} (h : rs[i]? = some r) : linesFrom 0 (rs.take (i + 1)) = linesFrom 0 (rs.take i) ++ (lineB i r ++ [10]) := by
  have e : rs.take (i + 1) = rs.take i ++ [r] := by rw [List.take_add_one, h]; rfl
  have el := (take_split h).2
  rw [e, lines_app, el, Nat.zero_add]
  simp [linesFrom, line]
def endAt (rs : List Rec) (tail : List Nat) (i : Nat) : Int := Txt.find3 (tx (linesFrom 0 rs ++ tail)) ⟨#[10]⟩ ((linesFrom 0 (rs.take i)).length : Nat)
theorem end_in {rs : List Rec} {tail : List Nat} {i : Nat} {r : Rec} (h : rs[i]? = some r) (ok : OkR r) : endAt rs tail i = (((linesFrom 0 (rs.take i)).length + (lineB i r).length : Nat) : Int) := by
  unfold endAt
  rw [lines_at h, List.append_assoc, List.append_assoc]
  exact find_at (line_no10 ok)
theorem cut_in {rs : List Rec} {tail : List Nat} {i : Nat} {r : Rec} (h : rs[i]? = some r) : ((linesFrom 0 rs ++ tail).drop (linesFrom 0 (rs.take i)).length).take ((linesFrom 0 (rs.take i)).length + (lineB i r).length - (linesFrom 0 (rs.take i)).length) = lineB i r := by
  rw [lines_at h, List.append_assoc, List.append_assoc, List.drop_left, Nat.add_sub_cancel_left, List.take_left]
theorem end_out {rs : List Rec} {tail : List Nat} (h : 10 ∉ tail) : endAt rs tail rs.length = -1 := by
  unfold endAt
  rw [List.take_length]
  exact find_no h
theorem end_bad {rs : List Rec} {b more : List Nat} (h : 10 ∉ b) : endAt rs (b ++ 10 :: more) rs.length = (((linesFrom 0 rs).length + b.length : Nat) : Int) := by
  unfold endAt
  rw [List.take_length]
  exact find_at h
theorem cut_bad {rs : List Rec} {b more : List Nat} : ((linesFrom 0 rs ++ (b ++ 10 :: more)).drop (linesFrom 0 rs).length).take ((linesFrom 0 rs).length + b.length - (linesFrom 0 rs).length) = b := by
  rw [List.drop_left, Nat.add_sub_cancel_left, List.take_left]
theorem lines_mono {rs : List Rec} {i : Nat} : (linesFrom 0 (rs.take i)).length ≤ (linesFrom 0 rs).length := by
  have := lines_app (rs.take i) (rs.drop i) 0
  rw [List.take_append_drop] at this
  rw [this, List.length_append]
  omega
/-- what stands behind the lines: no whole line, or one that is refused -/
def Tail (rs : List Rec) (tail : List Nat) : Prop :=
  10 ∉ tail ∨ ∃ b more, tail = b ++ 10 :: more ∧ 10 ∉ b ∧ b.length ≤ 4000 ∧ (Bad rs.length b ∨ ∃ r, OkR r ∧ b = lineB rs.length r ∧ fol rs r = false)
section
variable {P : Program} {w : World} {K : PySem.W.Frag} {mg : Str → Option Value} {base : Heap}
theorem ok_are_records (T : Tx K mg) (D : Td K mg w) : FnOk P w K mg base CX0 9 T.f_are_records T.fd_are_records ["value"] (sp_are K) := by
  have G_are_records_of := ok_are_records_of (P := P) (w := w) (base := base) T D
  have b_are_records_of := T.d_are_records_of.F.binds (ps := ["value"]) fun _ _ _ _ _ _ us hl => match us, hl with | [_], _ => rfl
  refine T.d_are_records.F.ok sc_are_records (fun vs H Q E h => ?_) (fun cdv A outer s H vs Q E hr h => ?_)
  · obtain ⟨l, rv, rs, rfl, _⟩ := h
    rfl
  · obtain ⟨l, rv, rs, rfl, r⟩ := h
    have hu := hu_of hr
    have hu64 := hr.units
    refine ⟨_, (pss_one (ps_ret (pe_call G_are_records_of (hr.mono (by first | decide | omega)) rfl T.d_are_records_of.g T.d_are_records_of.F.kp b_are_records_of .nil pass0 (pa_cons (pv 0) pa_nil)))), ?_⟩
    tm_at "rd"
    exact ⟨l, rv, rs, rfl, r⟩
def sp_jtext (K : PySem.W.Frag) : Sp := fun vs H Q _ => ∃ (l : Addr) (rv : List V) (rs : List Rec), vs = [.ref l] ∧ H l = some (.lst rv) ∧ DpAll K H rv (rs.map recD) ∧ (∀ r ∈ rs, OkR r) ∧ seqOk rs ∧ rs.length ≤ 500 ∧ ∀ H', Same H H' → Q (.str (tx (linesFrom 0 rs))) H'
theorem ok_journal_text (T : Tx K mg) (D : Td K mg w) : FnOk P w K mg base CX0 10 T.f_journal_text T.fd_journal_text ["records"] (sp_jtext K) := by
  have G_are_records_of := ok_are_records_of (P := P) (w := w) (base := base) T D
  have G_journal_of := ok_journal_of (P := P) (w := w) (base := base) T D
  have b_are_records_of := T.d_are_records_of.F.binds (ps := ["value"]) fun _ _ _ _ _ _ us hl => match us, hl with | [_], _ => rfl
  have b_journal_of := T.d_journal_of.F.binds (ps := ["records"]) fun _ _ _ _ _ _ us hl => match us, hl with | [_], _ => rfl
  refine T.d_journal_text.F.ok sc_journal_text (fun vs H Q E h => ?_) (fun cdv A outer s H vs Q E hr h => ?_)
  · obtain ⟨l, rv, rs, rfl, _⟩ := h
    rfl
  · obtain ⟨l, rv, rs, rfl, hL, hA, hok, hsq, hz, k⟩ := h
    have hu := hu_of hr
    have hu64 := hr.units
    refine ⟨_, (pss_cons (ps_if (pt_not (pt_val (pe_call G_are_records_of (hr.mono (by first | decide | omega)) rfl T.d_are_records_of.g T.d_are_records_of.F.kp b_are_records_of .nil pass0 (pa_cons (pv 0) pa_nil)))) (pss_one ps_never) pss_nil)
      (pss_one (ps_ret (pe_call G_journal_of (hr.mono (by first | decide | omega)) rfl T.d_journal_of.g T.d_journal_of.F.kp b_journal_of .nil pass0 (pa_cons (pv 0) pa_nil))))), ?_⟩
    tm_at "rd"
    refine ⟨l, rv, rs, rfl, hL, hA, hok, hsq, hz, fun H1 s1 => ?_⟩
    tm_at "rd"
    exact ⟨l, rv, rs, rfl, s1 _ _ hL, hA.same s1, hok, hz, fun H2 s2 => k _ (s1.trans s2)⟩
def sp_want : Sp := fun vs H Q _ => ∃ (l : List Nat), vs = [.str (tx l)] ∧ l.length ≤ 90000 ∧ Q (.str (tx l)) H
theorem ok_want_journal (T : Tx K mg) : FnOk P w K mg base CX0 1 T.f_want_journal T.fd_want_journal ["value"] sp_want := by
  refine T.d_want_journal.F.ok sc_want_journal (fun vs H Q E h => ?_) (fun cdv A outer s H vs Q E hr h => ?_)
  · obtain ⟨l, rfl, _⟩ := h
    rfl
  · obtain ⟨l, rfl, hl, k⟩ := h
    have hu := hu_of hr
    have hu64 := hr.units
    refine ⟨_, (pss_cons (ps_if (PW.pt (pw_or (pt_not (pt_val (pe_callB (caIsB (K := K) rfl) (by rfl) T.n_isinstance (by decide +kernel) (pa_cons (pv 0) (pa_cons (pe_bltn (v := .ty "str") (u := .type "str") (by rfl) T.n_str (by decide +kernel) rfl) pa_nil))))) (pw_or1 (pt_cmpR op_gt (pe_callB (caLenB (K := K) rfl) (by rfl) T.n_len (by decide +kernel) (pa_cons (pv 0) pa_nil)) (pe_const T.c_MOST_SIGNS_journals (by rfl)) (nomark _))))) (pss_one ps_never) pss_nil)
      (pss_one (ps_ret (pv 0)))), ?_⟩
    tm_at "rd"
    refine bd_f (by omega) ?_
    tm_at "rd"
    exact k
def sp_sumof : Sp := fun vs H Q _ => ∃ l : List Nat, vs = [.str (tx l)] ∧ l.length ≤ 90000 ∧ ∀ H', Same H H' → Q (.int (Jn.sum l : Nat)) H'
theorem ok_sum_of (T : Tx K mg) : FnOk P w K mg base CX0 2 T.f_sum_of T.fd_sum_of ["text"] sp_sumof := by
  have G_sum_of_signs := ok_sum_of_signs (P := P) (w := w) (base := base) T
  have G_want_journal := ok_want_journal (P := P) (w := w) (base := base) T
  have b_sum_of_signs := T.d_sum_of_signs.F.binds (ps := ["text"]) fun _ _ _ _ _ _ us hl => match us, hl with | [_], _ => rfl
  have b_want_journal := T.d_want_journal.F.binds (ps := ["value"]) fun _ _ _ _ _ _ us hl => match us, hl with | [_], _ => rfl
  refine T.d_sum_of.F.ok sc_sum_of (fun vs H Q E h => ?_) (fun cdv A outer s H vs Q E hr h => ?_)
  · obtain ⟨l, rfl, _⟩ := h
    rfl
  · obtain ⟨l, rfl, hl, k⟩ := h
    have hu := hu_of hr
    have hu64 := hr.units
    refine ⟨_, (pss_one (ps_ret (pe_call G_sum_of_signs (hr.mono (by first | decide | omega)) rfl T.d_sum_of_signs.g T.d_sum_of_signs.F.kp b_sum_of_signs .nil pass0 (pa_cons (pe_call G_want_journal (hr.mono (by first | decide | omega)) rfl T.d_want_journal.g T.d_want_journal.F.kp b_want_journal .nil pass0 (pa_cons (pv 0) pa_nil)) pa_nil)))), ?_⟩
    tm_at "rd"
    refine ⟨l, rfl, hl, ?_⟩
    tm_at "rd"
    exact ⟨l, rfl, hl, k⟩
def sp_read (K : PySem.W.Frag) : Sp := fun vs H Q _ => ∃ (rs : List Rec) (tail : List Nat), vs = [.str (tx (linesFrom 0 rs ++ tail))] ∧ (∀ r ∈ rs, OkR r) ∧ seqOk rs ∧ rs.length ≤ 200 ∧ tail.length ≤ 40000 ∧ Tail rs tail ∧
  ∀ H' p L rv, Same H H' → H L = none → H' p = some (.tup [.ref L, .int ((linesFrom 0 rs).length : Nat)]) → H' L = some (.lst rv) → DpAll K H' rv (rs.map recD) → Q (.ref p) H'
theorem ok_read_of (T : Tx K mg) (D : Td K mg w) : FnOk P w K mg base CX0 18 T.f_read_of T.fd_read_of ["text"] (sp_read K) := by
  have G_record_in := ok_record_in (P := P) (w := w) (base := base) T D
  have G_follows := ok_follows (P := P) (w := w) (base := base) T
  have b_record_in := T.d_record_in.F.binds (ps := ["number", "line"]) fun _ _ _ _ _ _ us hl => match us, hl with | [_, _], _ => rfl
  have b_follows := T.d_follows.F.binds (ps := ["records", "record"]) fun _ _ _ _ _ _ us hl => match us, hl with | [_, _], _ => rfl
  refine T.d_read_of.F.ok sc_read_of (fun vs H Q E h => ?_) (fun cdv A outer s H vs Q E hr h => ?_)
  · obtain ⟨rs, tail, rfl, _⟩ := h
    rfl
  · obtain ⟨rs, tail, rfl, hok, hsq, hz, hzt, htl, k⟩ := h
    have hu := hu_of hr
    have hu64 := hr.units
    refine ⟨_, (pss_cons (ps_par (i := 1) (j := 2) rfl sc_read_of.nd rfl rfl (by decide) rfl rfl (pa_cons (pe_lst pa_nil) (pa_cons pe_int pa_nil)) (by rfl))
      (pss_cons (ps_set (i := 3) sc_read_of.nd rfl (Or.inl rfl) (pe_bm PySem.F.plainAttrs_str PySem.F.slot_str_find PySem.F.type_str_find mt_find3 (pv 0) (pa_cons (pe_lit "\n") (pa_cons (pv 2) pa_nil))))
      (pss_cons (ps_while PassesOwn.never (pt_cmpR op_ge (pv 3) pe_int (nomark _)) (pss_cons (ps_set (i := 4) sc_read_of.nd rfl (Or.inl rfl) (pe_call G_record_in (hr.mono (by first | decide | omega)) rfl T.d_record_in.g T.d_record_in.F.kp b_record_in .nil pass0 (pa_cons (pe_callB (caLenB (K := K) rfl) (by rfl) T.n_len (by decide +kernel) (pa_cons (pv 1) pa_nil)) (pa_cons (pe_slice (slB (K := K) rfl) (pv 0) (po_some (pv 2)) (po_some (pv 3))) pa_nil))))
      (pss_cons (ps_if (PW.pt (pw_or (pt_cmp (pc_isN (pv 4)) rfl) (pw_or1 (pt_not (pt_val (pe_call G_follows (hr.mono (by first | decide | omega)) rfl T.d_follows.g T.d_follows.F.kp b_follows .nil pass0 (pa_cons (pv 1) (pa_cons (pv 4) pa_nil)))))))) (pss_one (ps_ret (pe_tup (pa_cons (pv 1) (pa_cons (pv 2) pa_nil))))) pss_nil)
      (pss_cons (ps_expr (pe_bm PySem.F.plainAttrs_list PySem.F.slot_list_append PySem.F.type_list_append mt_append (pv 1) (pa_cons (pv 4) pa_nil)))
      (pss_cons (ps_set (i := 2) sc_read_of.nd rfl (Or.inl rfl) (pe_op (opAddB (K := K) rfl) (pv 3) pe_int))
      (pss_one (ps_set (i := 3) sc_read_of.nd rfl (Or.inl rfl) (pe_bm PySem.F.plainAttrs_str PySem.F.slot_str_find PySem.F.type_str_find mt_find3 (pv 0) (pa_cons (pe_lit "\n") (pa_cons (pv 2) pa_nil))))))))))
      (pss_one (ps_ret (pe_tup (pa_cons (pv 1) (pa_cons (pv 2) pa_nil)))))))), ?_⟩
    have hln := lines_len hok 0 (by omega)
    have hall : (linesFrom 0 rs ++ tail).length ≤ 100000 := by rw [List.length_append]; omega
    tm_at "rd"
    intro L hL0
    have s1 := same_new (o := .lst []) hL0
    have hL1 := upd_same (H := H) (a := L) (o := .lst [])
    generalize upd H L (.lst []) = H1 at s1 hL1
    repeat (with_reducible first | refine r_nil ?_ | refine r_c ?_ | refine r_cons ?_ | refine r_name ?_ | refine r_two ?_)
    dsimp only
    tm_at "rd"
    refine ⟨rfl, ?_⟩
    tm_at "rd"
    refine ⟨_, _, _, rfl, rfl, ?_⟩
    rw [show tx (cs "\n") = (⟨#[10]⟩ : Str) from rfl, show Txt.find3 (tx (linesFrom 0 rs ++ tail)) ⟨#[10]⟩ 0 = endAt rs tail 0 from rfl]
    tm_at "rd"
    refine r_whileR (fun m σ Hc => ∃ (i : Nat) (rv : List V) (o4 : Option V), σ = [some (.str (tx (linesFrom 0 rs ++ tail))), some (.ref L), some (.int ((linesFrom 0 (rs.take i)).length : Nat)), some (.int (endAt rs tail i)), o4] ∧ Same H Hc ∧ Hc L = some (.lst rv) ∧ DpAll K Hc rv ((rs.take i).map recD) ∧ i ≤ rs.length ∧ m = rs.length - i)
      rs.length ⟨0, [], none, rfl, s1, hL1, .nil, Nat.zero_le _, rfl⟩ ?_
    clear s1 hL1
    rintro m σ Hc ⟨i, rv, o4, rfl, s1, hL, hA, hi, rfl⟩
    have hal := hA.length
    rw [List.length_map, List.length_take, Nat.min_eq_left hi] at hal
    tm_at "rd"
    rcases Nat.lt_or_ge i rs.length with hlt | hge
    · obtain ⟨r, hr2⟩ : ∃ r, rs[i]? = some r := ⟨rs[i], List.getElem?_eq_getElem hlt⟩
      have okr := hok r (List.mem_of_getElem? hr2)
      have e12 : (200 : Nat) < 10 ^ 12 := by decide
      have hll := line_len (n := i) (by omega) okr
      have hll2 : (lineB i r).length + 1 = (line i r).length := by simp [line]
      have hmono := lines_mono (rs := rs) (i := i)
      have hsucc := congrArg List.length (lines_succ hr2)
      simp only [List.length_append, List.length_cons, List.length_nil] at hsucc
      rw [end_in hr2 okr]
      refine bd_t (by omega) ?_
      refine turn_r ?_
      tm_at "rd"
      refine q_lenB_lst (SqL.of hL) ?_
      tm_at "rd"
      refine b_cut_tx hall ?_
      rw [cut_in hr2]
      tm_at "rd"
      refine ⟨i, lineB i r, by rw [hal]; rfl, by omega, by omega, .inl ⟨r, rfl, okr, fun H2 v s2 hv => ?_⟩⟩
      obtain ⟨pv, xs, rfl, hpv, _⟩ := rv_word hv
      have hL2 := s2 _ _ hL
      tm_at "rd"
      refine bd_f (fun e => by cases e) ?_
      tm_at "rd"
      refine ⟨L, rv, rs.take i, .ref pv, r, rfl, hL2, hA.same s2, hv, by omega, fun H3 s3 => ?_⟩
      rw [hsq i r hr2]
      have hL3 := s3 _ _ hL2
      tm_at "rd"
      refine ⟨ty_l hL3, ?_⟩
      tm_at "rd"
      refine ⟨L, rv, .ref pv, rfl, rfl, hL3, Nat.lt_of_le_of_lt (by omega : rv.length ≤ 200) (by decide), ?_⟩
      have kt4 : Kt H3 (upd H3 L (.lst (rv ++ [.ref pv]))) := Kt.upd hL3 not_tupU_lst
      have s4 : Same H (upd H3 L (.lst (rv ++ [.ref pv]))) := same_upd hL0 ((s1.trans s2).trans s3)
      have hL4 := upd_same (H := H3) (a := L) (o := .lst (rv ++ [.ref pv]))
      have et : (rs.take (i + 1)).map recD = (rs.take i).map recD ++ [recD r] := by rw [List.take_add_one, hr2, List.map_append]; rfl
      have hA4 : DpAll K (upd H3 L (.lst (rv ++ [.ref pv]))) (rv ++ [.ref pv]) ((rs.take (i + 1)).map recD) := by
        refine DpAll_kt kt4 (recs_only _) ?_
        rw [et]
        exact ((hA.same s2).same s3).app (.cons (hv.same s3) .nil)
      generalize upd H3 L (.lst (rv ++ [.ref pv])) = H4 at s4 hL4 hA4
      tm_at "rd"
      refine ⟨rfl, ?_⟩
      tm_at "rd"
      refine ⟨_, _, _, rfl, rfl, ?_⟩
      have ea : (((linesFrom 0 (rs.take i)).length + (lineB i r).length : Nat) : Int) + 1 = ((linesFrom 0 (rs.take (i + 1))).length : Nat) := by omega
      rw [ea]
      refine ⟨rs.length - (i + 1), by omega, i + 1, rv ++ [.ref pv], _, rfl, s4, hL4, hA4, by omega, rfl⟩
    · have ei : i = rs.length := by omega
      subst ei
      rw [List.take_length] at hA
      simp only [List.take_length]
      rcases htl with ht | ⟨b, more, rfl, hb, hbl, hbad⟩
      · rw [end_out ht]
        tm_at "rdw"
        intro p hp
        have s2 := same_new (o := .tup [.ref L, .int ((linesFrom 0 rs).length : Nat)]) hp
        exact k _ p L rv (s1.trans s2) hL0 upd_same (s2 _ _ hL) (hA.same s2)
      · rw [end_bad hb]
        refine bd_t (by omega) ?_
        refine turn_r ?_
        tm_at "rd"
        refine q_lenB_lst (SqL.of hL) ?_
        tm_at "rd"
        refine b_cut_tx hall ?_
        rw [cut_bad]
        have e12 : (200 : Nat) < 10 ^ 12 := by decide
        have fin : ∀ H', Same Hc H' → ∀ p, H' p = none → Q (.ref p) (upd H' p (.tup [.ref L, .int ((linesFrom 0 rs).length : Nat)])) := fun H' s' p hp => by
          have s2 := same_new (o := .tup [.ref L, .int ((linesFrom 0 rs).length : Nat)]) hp
          exact k _ p L rv ((s1.trans s').trans s2) hL0 upd_same (s2 _ _ (s' _ _ hL)) ((hA.same s').same s2)
        rcases hbad with hbad | ⟨r, okr, rfl, hfol⟩
        · tm_at "rd"
          refine ⟨rs.length, b, by rw [hal]; rfl, by omega, hbl, .inr ⟨hbad, fun H2 s2 => ?_⟩⟩
          tm_at "rd"
          refine bd_t rfl ?_
          tm_at "rd"
          exact fin _ s2
        · tm_at "rd"
          refine ⟨rs.length, lineB rs.length r, by rw [hal]; rfl, by omega, hbl, .inl ⟨r, rfl, okr, fun H2 v s2 hv => ?_⟩⟩
          obtain ⟨pv, xs, rfl, hpv, _⟩ := rv_word hv
          tm_at "rd"
          refine bd_f (fun e => by cases e) ?_
          tm_at "rd"
          refine ⟨L, rv, rs, .ref pv, r, rfl, s2 _ _ hL, hA.same s2, hv, by omega, fun H3 s3 => ?_⟩
          rw [hfol]
          tm_at "rd"
          exact fin _ (s2.trans s3)
theorem ok_read_journal (T : Tx K mg) (D : Td K mg w) : FnOk P w K mg base CX0 19 T.f_read_journal T.fd_read_journal ["text"] (sp_read K) := by
  have G_read_of := ok_read_of (P := P) (w := w) (base := base) T D
  have G_want_journal := ok_want_journal (P := P) (w := w) (base := base) T
  have b_read_of := T.d_read_of.F.binds (ps := ["text"]) fun _ _ _ _ _ _ us hl => match us, hl with | [_], _ => rfl
  have b_want_journal := T.d_want_journal.F.binds (ps := ["value"]) fun _ _ _ _ _ _ us hl => match us, hl with | [_], _ => rfl
  refine T.d_read_journal.F.ok sc_read_journal (fun vs H Q E h => ?_) (fun cdv A outer s H vs Q E hr h => ?_)
  · obtain ⟨rs, tail, rfl, _⟩ := h
    rfl
  · obtain ⟨rs, tail, rfl, hok, hsq, hz, hzt, htl, k⟩ := h
    have hu := hu_of hr
    have hu64 := hr.units
    refine ⟨_, (pss_one (ps_ret (pe_call G_read_of (hr.mono (by first | decide | omega)) rfl T.d_read_of.g T.d_read_of.F.kp b_read_of .nil pass0 (pa_cons (pe_call G_want_journal (hr.mono (by first | decide | omega)) rfl T.d_want_journal.g T.d_want_journal.F.kp b_want_journal .nil pass0 (pa_cons (pv 0) pa_nil)) pa_nil)))), ?_⟩
    have hln := lines_len hok 0 (by omega)
    tm_at "rd"
    refine ⟨_, rfl, by rw [List.length_append]; omega, ?_⟩
    tm_at "rd"
    exact ⟨rs, tail, rfl, hok, hsq, hz, hzt, htl, k⟩
end
end K68

set_option maxHeartbeats 4000000
/-! W68m: the law's draws. -/
namespace K68
open PySem PySem.Spec PyProof.Rows L2 TL Ak Kd Jn
local macro_rules | `(tactic| tm_at "rd1") => `(tactic| with_reducible first
  | refine r_seq ?_ | refine r_ifS ?_ | refine r_ret ?_ | refine r_asg ?_ | refine r_next ?_ | refine r_drop ?_ | refine r_par ?_ | refine r_brk ?_ | refine r_cont ?_
  | refine r_op ?_ | refine r_c ?_ | refine r_cb ?_ | refine r_cons ?_ | refine r_nil ?_ | refine r_un ?_ | refine r_tB ?_ | refine r_test ?_ | refine r_not ?_ | refine r_and ?_ | refine r_or ?_ | refine r_andV ?_ | refine r_orV ?_ | refine r_notV ?_ | refine r_if ?_ | refine r_chain ?_
  | refine r_tup ?_ | refine r_lst ?_ | refine r_lstN ?_ | refine r_sl ?_ | refine r_part ?_ | refine r_nopart ?_ | refine r_call ?_ | refine r_callK ?_ | refine r_bm ?_ | refine r_bm0 ?_ | refine r_m1 ?_ | refine r_m0 ?_ | refine r_isN ?_ | refine r_notN ?_
  | refine r_gcons ?_ | refine r_gnil ?_ | refine r_gsub ?_ | refine r_name ?_ | refine r_ilist ?_ | refine r_itup ?_ | refine r_istr ?_ | refine r_irng1 ?_ | refine r_ienum ?_ | refine r_mko ?_ | refine r_yes ?_ | refine r_lc ?_ | refine r_for ?_ | refine turn_i ?_
  | refine r_dput ?_ | refine r_dget ?_ | refine r_izipA ?_ | refine r_ienumT ?_ | refine r_back ?_ | refine r_dsetd ?_ | refine r_dgetN ?_ | refine r_dnotinN ?_ | refine r_isTr ?_ | refine r_lockAsg ?_ | refine r_bl ?_ | refine r_int ?_ | refine r_two ?_ | refine r_str ?_ | refine r_two1 ?_
  | refine b_t ?_ | refine b_f ?_ | refine b_nt ?_ | refine b_nf ?_ | refine q_u ?_ | refine q_i0 ?_ | refine q_ipI ?_ | refine b_add_int ?_ | refine b_eq_int ?_ | refine b_ne_int ?_ | refine b_eq_tx ?_ | refine b_ne_tx ?_ | refine b_in_sg ?_ | refine q_ni_sg ?_)
local macro_rules | `(tactic| tm_at "rd2") => `(tactic| first
  | tm_at "rd1" | refine r_var rfl ?_ | refine r_aug rfl ?_ 
  | refine And.intro (small_n (by simp)) ?_ | tm_at "rdl" | tm_at "rdk")
local macro_rules | `(tactic| tm_at "rdk") => `(tactic| with_reducible first | refine b_isStrV ?_ | refine b_isBlV ?_ | refine b_isIntV ?_ | refine b_isIntB ?_ | refine b_isTupS (by assumption) ?_ | refine b_isTup (by assumption) ?_ | refine b_isInt (by assumption) ?_ | refine b_isBl (by assumption) ?_ | refine b_isStr (by assumption) ?_ | refine b_isLst (by assumption) ?_)
local macro_rules | `(tactic| tm_at "rdl") => `(tactic| first | (with_reducible refine q_len_tx (by assumption) ?_) | (with_reducible refine q_len_tx (by omega) ?_) | (with_reducible refine q_lenB_tx (by assumption) ?_) | (with_reducible refine q_lenB_tx (by omega) ?_))
local macro_rules | `(tactic| tm_at "rd") => `(tactic| repeat tm_at "rd2")
local macro_rules | `(tactic| tm_at "rdw") => `(tactic| repeat (first | tm_at "rd2" | with_reducible refine bd_t rfl ?_ | with_reducible refine bd_f (by decide) ?_ | with_reducible refine bnd_f rfl ?_ | with_reducible refine bnd_t (by decide) ?_))

section
variable {P : Program} {w : World} {K : PySem.W.Frag} {mg : Str → Option Value} {base : Heap}
def sp_pot (K : PySem.W.Frag) : Sp := fun vs H Q _ => ∃ (a : Addr) (ns : List Int) (k : Nat), vs = [.ref a, .int (k : Int)] ∧ SqL K H a (ns.map V.int) ∧ k ≤ 2 ∧ ∀ H' p, Same H H' → Pot H' p → H p = none → Q (.ref p) H'
theorem ok_pot (T : Tx K mg) : FnOk P w K mg base CX0 1 T.f__law_pot T.fd__law_pot ["script", "k"] (sp_pot K) := by
  refine T.d__law_pot.F.ok sc__law_pot (fun vs H Q E h => ?_) (fun cdv A outer s H vs Q E hr h => ?_)
  · obtain ⟨a, ns, k, rfl, _⟩ := h
    rfl
  · obtain ⟨a, ns, j, rfl, hS, hj, k⟩ := h
    have hu := hu_of hr
    have hu64 := hr.units
    refine ⟨_, (pss_cons (ps_set (i := 2) sc__law_pot.nd rfl (Or.inl rfl) (pe_ifExp (pt_cmpR op_lt (pv 1) (pe_callB (caLenB (K := K) rfl) (by rfl) T.n_len (by decide +kernel) (pa_cons (pv 0) pa_nil)) (nomark _)) (pe_callB call_abs (by rfl) T.n_abs (by decide +kernel) (pa_cons (pe_ix (ixAny (K := K) rfl) (pv 0) (pv 1) (fun _ _ => rfl)) pa_nil)) (pe_op (opAddB (K := K) rfl) (pe_op opMul pe_int (pv 1)) pe_int)))
      (pss_one (ps_ret (pe_lst (pa_cons (pe_callB (call_max2 rfl) (by rfl) T.n_max (by decide +kernel) (pa_cons pe_int (pa_cons (pe_op op_sub (pv 2) (pe_op op_pow pe_int pe_int)) pa_nil))) (pa_cons (pe_op (opAddB (K := K) rfl) (pe_op op_mod (pe_callTy call_int1 (by rfl) T.n_int (by decide +kernel) (pa_cons (pe_op (opAddB (K := K) rfl) (pe_op (opAddB (K := K) rfl) (pe_op opMul (pe_op op_mod (pe_callTy call_int1 (by rfl) T.n_int (by decide +kernel) (pa_cons (pv 2) pa_nil)) pe_int) pe_int) (pe_op opMul pe_int (pv 1))) pe_int) pa_nil)) pe_int) pe_int) pa_nil)))))), ?_⟩
    tm_at "rd"
    have fin : ∀ (c : Int) (H1 : Hp), 0 ≤ c → Same H H1 → ∀ b : Int, 0 ≤ b → b < 2147483648 → ∀ p, H1 p = none → Q (.ref p) (upd H1 p (.lst [.int (if c - 10 ^ (18 : Int).toNat > 0 then c - 10 ^ (18 : Int).toNat else 0), .int b])) := by
      intro c H1 hc s1 b hb1 hb2 p hp
      refine k _ p (s1.trans (same_new hp)) ⟨_, b, upd_same, ?_, hb1, hb2⟩ (same_none s1 hp)
      split <;> omega
    refine q_lenB_lst hS ?_
    tm_at "rd"
    refine bd (fun c1 => ?_) (fun c1 => ?_)
    · tm_at "rd"
      rw [List.length_map] at c1
      refine q_ix_lst hS (v := .int (ns.getD j 0)) (atI_nat ?_) ?_
      · rw [List.getElem?_map, List.getD_eq_getElem?_getD, List.getElem?_eq_getElem (show j < ns.length by omega)]
        rfl
      generalize ns.getD j 0 = i
      tm_at "rd"
      refine ⟨i, rfl, ?_⟩
      have hc : 0 ≤ (if i < 0 then -i else i) := by split <;> omega
      generalize (if i < 0 then -i else i) = c at hc ⊢
      tm_at "rd"
      refine q_rI (show CPow 10 18 from ⟨by decide, by decide, by decide⟩) ?_
      tm_at "rd"
      refine ⟨_, _, rfl, ?_⟩
      tm_at "rd"
      refine .inl ⟨_, rfl, ?_⟩
      tm_at "rd"
      refine q_rI (show (0 : Int) < 2147483549 by decide) ?_
      have p1 := Int.emod_nonneg c (show (2147483549 : Int) ≠ 0 by decide)
      have p2 := Int.emod_lt_of_pos c (show (0 : Int) < 2147483549 by decide)
      tm_at "rd"
      refine q_mulI (by omega) (by omega) ?_
      tm_at "rd"
      refine q_mulI (by omega) (by omega) ?_
      tm_at "rd"
      refine .inl ⟨_, rfl, ?_⟩
      tm_at "rd"
      refine q_rI (show (0 : Int) < 2147483563 by decide) ?_
      have p3 := Int.emod_nonneg (c % 2147483549 * 17957 + 18181 * (j : Int) + 907) (show (2147483563 : Int) ≠ 0 by decide)
      have p4 := Int.emod_lt_of_pos (c % 2147483549 * 17957 + 18181 * (j : Int) + 907) (show (0 : Int) < 2147483563 by decide)
      tm_at "rd"
      exact fun p hp => fin c _ hc (Same.refl _) _ (by omega) (by omega) p hp
    · tm_at "rd"
      refine q_mulI (by omega) (by omega) ?_
      tm_at "rd"
      have hc : (0 : Int) ≤ 19709 * (j : Int) + 21101 := by omega
      generalize 19709 * (j : Int) + 21101 = c at hc ⊢
      tm_at "rd"
      refine q_rI (show CPow 10 18 from ⟨by decide, by decide, by decide⟩) ?_
      tm_at "rd"
      refine ⟨_, _, rfl, ?_⟩
      tm_at "rd"
      refine .inl ⟨_, rfl, ?_⟩
      tm_at "rd"
      refine q_rI (show (0 : Int) < 2147483549 by decide) ?_
      have p1 := Int.emod_nonneg c (show (2147483549 : Int) ≠ 0 by decide)
      have p2 := Int.emod_lt_of_pos c (show (0 : Int) < 2147483549 by decide)
      tm_at "rd"
      refine q_mulI (by omega) (by omega) ?_
      tm_at "rd"
      refine q_mulI (by omega) (by omega) ?_
      tm_at "rd"
      refine .inl ⟨_, rfl, ?_⟩
      tm_at "rd"
      refine q_rI (show (0 : Int) < 2147483563 by decide) ?_
      have p3 := Int.emod_nonneg (c % 2147483549 * 17957 + 18181 * (j : Int) + 907) (show (2147483563 : Int) ≠ 0 by decide)
      have p4 := Int.emod_lt_of_pos (c % 2147483549 * 17957 + 18181 * (j : Int) + 907) (show (0 : Int) < 2147483563 by decide)
      tm_at "rd"
      exact fun p hp => fin c _ hc (Same.refl _) _ (by omega) (by omega) p hp
def sp_draw : Sp := fun vs H Q _ => ∃ (p : Addr) (m : Int), vs = [.ref p, .int m] ∧ Pot H p ∧ 0 < m ∧ m < 1073741824 ∧ ∀ H' r, SX p H H' → 0 ≤ r → r < m → Q (.int r) H'
theorem ok_draw (T : Tx K mg) : FnOk P w K mg base CX0 1 T.f__law_draw T.fd__law_draw ["pot", "size"] sp_draw := by
  refine T.d__law_draw.F.ok sc__law_draw (fun vs H Q E h => ?_) (fun cdv A outer s H vs Q E hr h => ?_)
  · obtain ⟨p, m, rfl, _⟩ := h
    rfl
  · obtain ⟨p, m, rfl, hP, hm1, hm2, k⟩ := h
    have hu := hu_of hr
    have hu64 := hr.units
    refine ⟨_, (pss_cons (ps_if (pt_cmpR op_gt (pe_ix (ixAny (K := K) rfl) (pv 0) pe_int (fun _ _ => rfl)) pe_int (nomark _)) (pss_cons (ps_asg (pe_callB call_divmod (by rfl) T.n_divmod (by decide +kernel) (pa_cons (pe_ix (ixAny (K := K) rfl) (pv 0) pe_int (fun _ _ => rfl)) (pa_cons (pv 1) pa_nil))) (pg_tup rfl (pgs_cons (pg_sub (pv 0) pe_int set_list) (pgs_cons (pg_name (i := 2) sc__law_draw.nd rfl (Or.inl rfl)) pgs_nil))))
      (pss_one (ps_ret (pv 2)))) pss_nil)
      (pss_cons (ps_asg (pe_op op_mod (pe_callTy call_int1 (by rfl) T.n_int (by decide +kernel) (pa_cons (pe_op (opAddB (K := K) rfl) (pe_op opMul (pe_ix (ixAny (K := K) rfl) (pv 0) pe_int (fun _ _ => rfl)) pe_int) pe_int) pa_nil)) pe_int) (pg_sub (pv 0) pe_int set_list))
      (pss_one (ps_ret (pe_op op_mod (pe_callTy call_int1 (by rfl) T.n_int (by decide +kernel) (pa_cons (pe_op op_fdiv (pe_op op_mod (pe_callTy call_int1 (by rfl) T.n_int (by decide +kernel) (pa_cons (pe_op opMul (pe_ix (ixAny (K := K) rfl) (pv 0) pe_int (fun _ _ => rfl)) (pe_ix (ixAny (K := K) rfl) (pv 0) pe_int (fun _ _ => rfl))) pa_nil)) pe_int) pe_int) pa_nil)) (pv 1)))))), ?_⟩
    obtain ⟨cur, seed, h1, h2, h3, h4⟩ := id hP
    tm_at "rd"
    refine q_ix_lst (SqL.of h1) (v := .int cur) rfl ?_
    tm_at "rd"
    refine bd (fun c1 => ?_) (fun c1 => ?_)
    · tm_at "rd"
      refine q_ix_lst (SqL.of h1) (v := .int cur) rfl ?_
      tm_at "rd"
      refine ⟨cur, m, rfl, ⟨hm1, hm2⟩, fun q nq => ?_⟩
      have s2 := same_new (o := .tup [.int (cur / m), .int (cur % m)]) nq
      refine r_gtup (SqT.of upd_same) rfl ?_
      tm_at "rd"
      refine ⟨p, [.int cur, .int seed], 0, 0, rfl, rfl, s2 _ _ h1, by rfl, ?_⟩
      tm_at "rd"
      exact k _ (cur % m) ((SX.of hP s2).trans (.put (Int.ediv_nonneg h2 (by omega)) h3 h4)) (Int.emod_nonneg _ (by omega)) (Int.emod_lt_of_pos _ hm1)
    · tm_at "rd"
      refine q_ix_lst (SqL.of h1) (v := .int seed) rfl ?_
      tm_at "rd"
      refine q_mulI (by omega) (by omega) ?_
      tm_at "rd"
      refine .inl ⟨_, rfl, ?_⟩
      tm_at "rd"
      refine q_rI (show (0 : Int) < 2147483399 by decide) ?_
      tm_at "rd"
      refine ⟨p, [.int cur, .int seed], 1, 1, rfl, rfl, h1, by rfl, ?_⟩
      have p1 := Int.emod_nonneg (seed * 40692 + 18181) (show (2147483399 : Int) ≠ 0 by decide)
      have p2 := Int.emod_lt_of_pos (seed * 40692 + 18181) (show (0 : Int) < 2147483399 by decide)
      generalize (seed * 40692 + 18181) % 2147483399 = sd at *
      have s2 : SX p H (upd H p (.lst ([V.int cur, .int seed].set 1 (.int sd)))) := .put h2 p1 (by omega)
      tm_at "rd"
      refine q_ix_lst (SqL.of upd_same) (v := .int sd) rfl ?_
      tm_at "rd"
      refine q_ix_lst (SqL.of upd_same) (v := .int sd) rfl ?_
      tm_at "rd"
      refine q_mulI (by omega) (by omega) ?_
      tm_at "rd"
      refine .inl ⟨_, rfl, ?_⟩
      tm_at "rd"
      refine q_rI (show (0 : Int) < 2147483323 by decide) ?_
      tm_at "rd"
      refine q_rI (show CDiv _ 19 from ⟨by decide, by decide⟩) ?_
      tm_at "rd"
      refine .inl ⟨_, rfl, ?_⟩
      tm_at "rd"
      refine q_rI (show (0 : Int) < m from hm1) ?_
      exact k _ _ s2 (Int.emod_nonneg _ (by omega)) (Int.emod_lt_of_pos _ hm1)
def sp_pick (K : PySem.W.Frag) : Sp := fun vs H Q _ => ∃ (p a : Addr) (xs : List V), vs = [.ref p, .ref a] ∧ Pot H p ∧ SqL K H a xs ∧ a ≠ p ∧ xs ≠ [] ∧ xs.length ≤ 1000 ∧ ∀ H' x, SX p H H' → x ∈ xs → Q x H'
theorem ok_pick (T : Tx K mg) : FnOk P w K mg base CX0 2 T.f__law_pick T.fd__law_pick ["pot", "some"] (sp_pick K) := by
  have G__law_draw := ok_draw (P := P) (w := w) (base := base) T
  have b__law_draw := T.d__law_draw.F.binds (ps := ["pot", "size"]) fun _ _ _ _ _ _ us hl => match us, hl with | [_, _], _ => rfl
  refine T.d__law_pick.F.ok sc__law_pick (fun vs H Q E h => ?_) (fun cdv A outer s H vs Q E hr h => ?_)
  · obtain ⟨p, a, xs, rfl, _⟩ := h
    rfl
  · obtain ⟨p, a, xs, rfl, hP, hS, n1, h0, hl, k⟩ := h
    have hu := hu_of hr
    have hu64 := hr.units
    refine ⟨_, (pss_one (ps_ret (pe_ix (ixAny (K := K) rfl) (pv 1) (pe_call G__law_draw (hr.mono (by first | decide | omega)) rfl T.d__law_draw.g T.d__law_draw.F.kp b__law_draw .nil pass0 (pa_cons (pv 0) (pa_cons (pe_callB (caLenB (K := K) rfl) (by rfl) T.n_len (by decide +kernel) (pa_cons (pv 1) pa_nil)) pa_nil))) (fun _ _ => rfl)))), ?_⟩
    have hpos : 0 < xs.length := List.length_pos_iff.mpr h0
    tm_at "rd"
    refine q_lenB_lst hS ?_
    tm_at "rd"
    refine ⟨p, (xs.length : Int), rfl, hP, by omega, by omega, fun H1 r s1 r1 r2 => ?_⟩
    obtain ⟨j, rfl⟩ := Int.eq_ofNat_of_zero_le r1
    have hj : j < xs.length := by omega
    exact q_ix_lst (s1.seq n1 hS) (atI_nat (List.getElem?_eq_getElem hj)) (k _ _ s1 (List.getElem_mem hj))
theorem pick_at {p l : Addr} {xs : List V} {H : Hp} {Q : VK} {E : XK} (hP : Pot H p) (hl : H l = none) (h0 : xs ≠ []) (hn : xs.length ≤ 1000) (q : ∀ x ∈ xs, ∀ H', SX p H H' → Q x H') : sp_pick K [.ref p, .ref l] (upd H l (.lst xs)) Q E :=
  ⟨p, l, xs, rfl, hP.same (same_new hl), SqL.of upd_same, hP.ne hl, h0, hn, fun H' x s hx => q x hx H' ((SX.of hP (same_new hl)).trans s)⟩

def sp_ldata (K : PySem.W.Frag) (n : Nat) : Sp := fun vs H Q _ => ∃ (p : Addr), vs = [.ref p, .int (n : Nat)] ∧ Pot H p ∧ n ≤ 5 ∧ ∀ H' v t, SX p H H' → Tv K H' v t → OkT t → depT t ≤ n + 1 → Q v H'
theorem data_step (T : Tx K mg) (n : Nat) (spS : Sp) (G__law_data : FnOk P w K mg base CX0 (2 + n) T.f__law_data T.fd__law_data ["pot", "deep"] spS) (hS : ∀ m, n = m + 1 → spS = sp_ldata K m) : FnOk P w K mg base CX0 (3 + n) T.f__law_data T.fd__law_data ["pot", "deep"] (sp_ldata K n) := by
  have G__law_draw := ok_draw (P := P) (w := w) (base := base) T
  have G__law_pick := ok_pick (P := P) (w := w) (base := base) T
  have b__law_draw := T.d__law_draw.F.binds (ps := ["pot", "size"]) fun _ _ _ _ _ _ us hl => match us, hl with | [_, _], _ => rfl
  have b__law_pick := T.d__law_pick.F.binds (ps := ["pot", "some"]) fun _ _ _ _ _ _ us hl => match us, hl with | [_, _], _ => rfl
  have b__law_data := T.d__law_data.F.binds (ps := ["pot", "deep"]) fun _ _ _ _ _ _ us hl => match us, hl with | [_, _], _ => rfl
  rw [show 3 + n = 2 + n + 1 by omega]
  refine T.d__law_data.F.ok sc__law_data (fun vs H Q E h => ?_) (fun cdv A outer s H vs Q E hr h => ?_)
  · obtain ⟨p, rfl, _⟩ := h
    rfl
  · obtain ⟨p, rfl, hP, hn, k⟩ := h
    have hu := hu_of hr
    have hu64 := hr.units
    refine ⟨_, (pss_cons (ps_set (i := 2) sc__law_data.nd rfl (Or.inl rfl) (pe_call G__law_draw (hr.mono (by first | decide | omega)) rfl T.d__law_draw.g T.d__law_draw.F.kp b__law_draw .nil pass0 (pa_cons (pv 0) (pa_cons pe_int pa_nil))))
      (pss_cons (ps_if (PW.pt (pw_or (pt_cmpR (opEqB (K := K) rfl hu64) (pv 1) pe_int (nomark _)) (pw_or1 (pt_cmpR op_lt (pv 2) pe_int (nomark _))))) (pss_one (ps_ret (pe_call G__law_pick (hr.mono (by first | decide | omega)) rfl T.d__law_pick.g T.d__law_pick.F.kp b__law_pick .nil pass0 (pa_cons (pv 0) (pa_cons (pe_lst (pa_cons (pe_tup (pa_cons (pe_lit "int") (pa_cons (pe_op op_sub (pe_call G__law_draw (hr.mono (by first | decide | omega)) rfl T.d__law_draw.g T.d__law_draw.F.kp b__law_draw .nil pass0 (pa_cons (pv 0) (pa_cons pe_int pa_nil))) pe_int) pa_nil))) (pa_cons (pe_tup (pa_cons (pe_lit "bool") (pa_cons pe_bl pa_nil))) (pa_cons (pe_tup (pa_cons (pe_lit "unit") pa_nil)) (pa_cons (pe_tup (pa_cons (pe_lit "nil") pa_nil)) (pa_cons (pe_tup (pa_cons (pe_lit "int") (pa_cons (pe_op op_sub (pe_op op_pow pe_int pe_int) pe_int) pa_nil))) pa_nil)))))) pa_nil))))) pss_nil)
      (pss_one (ps_ret (pe_tup (pa_cons (pe_ifExp (pt_cmpR op_lt (pv 2) pe_int (nomark _)) (pe_lit "pair") (pe_lit "cons")) (pa_cons (pe_call G__law_data (hr.mono (by first | decide | omega)) rfl T.d__law_data.g T.d__law_data.F.kp b__law_data .nil pass0 (pa_cons (pv 0) (pa_cons (pe_op op_sub (pv 1) pe_int) pa_nil))) (pa_cons (pe_call G__law_data (hr.mono (by first | decide | omega)) rfl T.d__law_data.g T.d__law_data.F.kp b__law_data .nil pass0 (pa_cons (pv 0) (pa_cons (pe_op op_sub (pv 1) pe_int) pa_nil))) pa_nil)))))))), ?_⟩
    tm_at "rd"
    refine ⟨p, 8, rfl, hP, by omega, by omega, fun H1 way s1 w1 w2 => ?_⟩
    tm_at "rd"
    refine bd (fun c1 => ?_) (fun c1 => ?_)
    · tm_at "rd"
      refine ⟨p, 2000, rfl, s1.2, by omega, by omega, fun H2 z s2 z1 z2 => ?_⟩
      tm_at "rd"
      intro q1 h1
      have n1 := s2.2.ne h1
      have t1 := SX.of s2.2 (same_new (o := .tup [.str (tx (cs "int")), .int (z - 1000)]) h1)
      have e1 := upd_same (H := H2) (a := q1) (o := .tup [.str (tx (cs "int")), .int (z - 1000)])
      generalize upd H2 q1 (.tup [.str (tx (cs "int")), .int (z - 1000)]) = H3 at t1 e1
      tm_at "rd"
      intro q2 h2
      have n2 := t1.2.ne h2
      have t2 := SX.of t1.2 (same_new (o := .tup [.str (tx (cs "bool")), .bl true]) h2)
      have e2 := upd_same (H := H3) (a := q2) (o := .tup [.str (tx (cs "bool")), .bl true])
      generalize upd H3 q2 (.tup [.str (tx (cs "bool")), .bl true]) = H4 at t2 e2
      tm_at "rd"
      intro q3 h3
      have n3 := t2.2.ne h3
      have t3 := SX.of t2.2 (same_new (o := .tup [.str (tx (cs "unit"))]) h3)
      have e3 := upd_same (H := H4) (a := q3) (o := .tup [.str (tx (cs "unit"))])
      generalize upd H4 q3 (.tup [.str (tx (cs "unit"))]) = H5 at t3 e3
      tm_at "rd"
      intro q4 h4
      have n4 := t3.2.ne h4
      have t4 := SX.of t3.2 (same_new (o := .tup [.str (tx (cs "nil"))]) h4)
      have e4 := upd_same (H := H5) (a := q4) (o := .tup [.str (tx (cs "nil"))])
      generalize upd H5 q4 (.tup [.str (tx (cs "nil"))]) = H6 at t4 e4
      tm_at "rd"
      refine q_rI (show CPow 2 31 from ⟨by decide, by decide, by decide⟩) ?_
      tm_at "rd"
      rw [show (2 : Int) ^ (31 : Int).toNat - 1 = 2147483647 by decide]
      intro q5 h5
      have n5 := t4.2.ne h5
      have t5 := SX.of t4.2 (same_new (o := .tup [.str (tx (cs "int")), .int 2147483647]) h5)
      have e5 := upd_same (H := H6) (a := q5) (o := .tup [.str (tx (cs "int")), .int 2147483647])
      generalize upd H6 q5 (.tup [.str (tx (cs "int")), .int 2147483647]) = H7 at t5 e5
      tm_at "rd"
      intro L hL
      have t6 := SX.of t5.2 (same_new (o := .lst [.ref q1, .ref q2, .ref q3, .ref q4, .ref q5]) hL)
      refine ⟨p, L, [.ref q1, .ref q2, .ref q3, .ref q4, .ref q5], rfl, t6.2, SqL.of upd_same, t5.2.ne hL, by simp, by simp, fun H8 x s8 hx => ?_⟩
      have u5 := t6.trans s8
      have u4 := t5.trans u5
      have u3 := t4.trans u4
      have u2 := t3.trans u3
      have u1 := t2.trans u2
      have u0 := (s1.trans s2).trans (t1.trans u1)
      have a1 : ∀ {H H' : Hp} {q : Addr} {xs : List V}, SX p H H' → q ≠ p → H q = some (.tup xs) → H' q = some (.tup xs) := fun s n h => s.1 _ _ n h
      simp only [List.mem_cons, List.not_mem_nil, or_false] at hx
      rcases hx with rfl | rfl | rfl | rfl | rfl
      · exact k _ _ (.int (z - 1000)) u0 (.tup (SqT.of (a1 u1 n1 e1)) (.cons (.str _) (.cons (.int _) .nil))) (by simp only [OkT]; omega) (by simp only [depT]; omega)
      · exact k _ _ .tt u0 (.tup (SqT.of (a1 u2 n2 e2)) (.cons (.str _) (.cons (.bl _) .nil))) trivial (by simp only [depT]; omega)
      · exact k _ _ .uu u0 (.tup (SqT.of (a1 u3 n3 e3)) (.cons (.str _) .nil)) trivial (by simp only [depT]; omega)
      · exact k _ _ .nn u0 (.tup (SqT.of (a1 u4 n4 e4)) (.cons (.str _) .nil)) trivial (by simp only [depT]; omega)
      · exact k _ _ (.int 2147483647) u0 (.tup (SqT.of (a1 u5 n5 e5)) (.cons (.str _) (.cons (.int _) .nil))) (by simp only [OkT]; omega) (by simp only [depT]; omega)
    tm_at "rd"
    refine bd (fun c2 => ?_) (fun c2 => ?_)
    · tm_at "rd"
      refine ⟨p, 2000, rfl, s1.2, by omega, by omega, fun H2 z s2 z1 z2 => ?_⟩
      tm_at "rd"
      intro q1 h1
      have n1 := s2.2.ne h1
      have t1 := SX.of s2.2 (same_new (o := .tup [.str (tx (cs "int")), .int (z - 1000)]) h1)
      have e1 := upd_same (H := H2) (a := q1) (o := .tup [.str (tx (cs "int")), .int (z - 1000)])
      generalize upd H2 q1 (.tup [.str (tx (cs "int")), .int (z - 1000)]) = H3 at t1 e1
      tm_at "rd"
      intro q2 h2
      have n2 := t1.2.ne h2
      have t2 := SX.of t1.2 (same_new (o := .tup [.str (tx (cs "bool")), .bl true]) h2)
      have e2 := upd_same (H := H3) (a := q2) (o := .tup [.str (tx (cs "bool")), .bl true])
      generalize upd H3 q2 (.tup [.str (tx (cs "bool")), .bl true]) = H4 at t2 e2
      tm_at "rd"
      intro q3 h3
      have n3 := t2.2.ne h3
      have t3 := SX.of t2.2 (same_new (o := .tup [.str (tx (cs "unit"))]) h3)
      have e3 := upd_same (H := H4) (a := q3) (o := .tup [.str (tx (cs "unit"))])
      generalize upd H4 q3 (.tup [.str (tx (cs "unit"))]) = H5 at t3 e3
      tm_at "rd"
      intro q4 h4
      have n4 := t3.2.ne h4
      have t4 := SX.of t3.2 (same_new (o := .tup [.str (tx (cs "nil"))]) h4)
      have e4 := upd_same (H := H5) (a := q4) (o := .tup [.str (tx (cs "nil"))])
      generalize upd H5 q4 (.tup [.str (tx (cs "nil"))]) = H6 at t4 e4
      tm_at "rd"
      refine q_rI (show CPow 2 31 from ⟨by decide, by decide, by decide⟩) ?_
      tm_at "rd"
      rw [show (2 : Int) ^ (31 : Int).toNat - 1 = 2147483647 by decide]
      intro q5 h5
      have n5 := t4.2.ne h5
      have t5 := SX.of t4.2 (same_new (o := .tup [.str (tx (cs "int")), .int 2147483647]) h5)
      have e5 := upd_same (H := H6) (a := q5) (o := .tup [.str (tx (cs "int")), .int 2147483647])
      generalize upd H6 q5 (.tup [.str (tx (cs "int")), .int 2147483647]) = H7 at t5 e5
      tm_at "rd"
      intro L hL
      have t6 := SX.of t5.2 (same_new (o := .lst [.ref q1, .ref q2, .ref q3, .ref q4, .ref q5]) hL)
      refine ⟨p, L, [.ref q1, .ref q2, .ref q3, .ref q4, .ref q5], rfl, t6.2, SqL.of upd_same, t5.2.ne hL, by simp, by simp, fun H8 x s8 hx => ?_⟩
      have u5 := t6.trans s8
      have u4 := t5.trans u5
      have u3 := t4.trans u4
      have u2 := t3.trans u3
      have u1 := t2.trans u2
      have u0 := (s1.trans s2).trans (t1.trans u1)
      have a1 : ∀ {H H' : Hp} {q : Addr} {xs : List V}, SX p H H' → q ≠ p → H q = some (.tup xs) → H' q = some (.tup xs) := fun s n h => s.1 _ _ n h
      simp only [List.mem_cons, List.not_mem_nil, or_false] at hx
      rcases hx with rfl | rfl | rfl | rfl | rfl
      · exact k _ _ (.int (z - 1000)) u0 (.tup (SqT.of (a1 u1 n1 e1)) (.cons (.str _) (.cons (.int _) .nil))) (by simp only [OkT]; omega) (by simp only [depT]; omega)
      · exact k _ _ .tt u0 (.tup (SqT.of (a1 u2 n2 e2)) (.cons (.str _) (.cons (.bl _) .nil))) trivial (by simp only [depT]; omega)
      · exact k _ _ .uu u0 (.tup (SqT.of (a1 u3 n3 e3)) (.cons (.str _) .nil)) trivial (by simp only [depT]; omega)
      · exact k _ _ .nn u0 (.tup (SqT.of (a1 u4 n4 e4)) (.cons (.str _) .nil)) trivial (by simp only [depT]; omega)
      · exact k _ _ (.int 2147483647) u0 (.tup (SqT.of (a1 u5 n5 e5)) (.cons (.str _) (.cons (.int _) .nil))) (by simp only [OkT]; omega) (by simp only [depT]; omega)
    cases n with
    | zero => exact absurd rfl c1
    | succ m =>
    have eS := hS m rfl
    subst eS
    have em : (((m + 1 : Nat) : Int) - 1) = (m : Nat) := by omega
    have hm : m ≤ 5 := by omega
    tm_at "rd"
    refine bd (fun c3 => ?_) (fun c3 => ?_)
    · tm_at "rd"
      rw [em]
      refine ⟨p, rfl, s1.2, hm, fun H2 v1 t1 s2 hv1 ok1 d1 => ?_⟩
      tm_at "rd"
      rw [em]
      refine ⟨p, rfl, s2.2, hm, fun H3 v2 t2 s3 hv2 ok2 d2 => ?_⟩
      tm_at "rd"
      intro q hq
      have s4 := SX.of s3.2 (same_new (o := .tup [.str (tx (cs "pair")), v1, v2]) hq)
      refine k _ _ (.pr t1 t2) (((s1.trans s2).trans s3).trans s4) ?_ ⟨ok1, ok2⟩ (by simp only [depT]; omega)
      exact .tup (SqT.of upd_same) (.cons (.str _) (.cons (hv1.kt ((s3.trans s4).kt s2.2)) (.cons (hv2.kt (s4.kt s3.2)) .nil)))
    · tm_at "rd"
      rw [em]
      refine ⟨p, rfl, s1.2, hm, fun H2 v1 t1 s2 hv1 ok1 d1 => ?_⟩
      tm_at "rd"
      rw [em]
      refine ⟨p, rfl, s2.2, hm, fun H3 v2 t2 s3 hv2 ok2 d2 => ?_⟩
      tm_at "rd"
      intro q hq
      have s4 := SX.of s3.2 (same_new (o := .tup [.str (tx (cs "cons")), v1, v2]) hq)
      refine k _ _ (.cn t1 t2) (((s1.trans s2).trans s3).trans s4) ?_ ⟨ok1, ok2⟩ (by simp only [depT]; omega)
      exact .tup (SqT.of upd_same) (.cons (.str _) (.cons (hv1.kt ((s3.trans s4).kt s2.2)) (.cons (hv2.kt (s4.kt s3.2)) .nil)))
theorem ok_law_data (T : Tx K mg) : ∀ n : Nat, FnOk P w K mg base CX0 (3 + n) T.f__law_data T.fd__law_data ["pot", "deep"] (sp_ldata K n)
  | 0 => data_step T 0 spNo (ok_no.mono (by omega)) fun m e => absurd e (by omega)
  | n + 1 => data_step T (n + 1) (sp_ldata K n) (by have := ok_law_data T n; rwa [show 3 + n = 2 + (n + 1) by omega] at this) fun m e => by cases e; rfl
/-- the last word of a run's own records, as the law keeps it -/
def lastW (rs : List Rec) : List Nat := (kws rs).getLast?.getD []
theorem kws_app (rs : List Rec) (r : Rec) : kws (rs ++ [r]) = if wordR r = cs "kept" then kws rs else kws rs ++ [wordR r] := by
  unfold kws
  rw [List.map_append, List.filter_append]
  by_cases h : wordR r = cs "kept"
  · simp [h]
  · simp [h]
theorem seq_app {rs : List Rec} {r : Rec} (h : seqOk rs) (hf : fol rs r = true) : seqOk (rs ++ [r]) := by
  intro j q hj
  rcases Nat.lt_trichotomy j rs.length with c | c | c
  · rw [List.getElem?_append_left c] at hj
    rw [List.take_append_of_le_length (by omega)]
    exact h j q hj
  · subst c
    rw [List.getElem?_append_right (Nat.le_refl _), Nat.sub_self] at hj
    cases hj
    rw [List.take_left]
    exact hf
  · rw [List.getElem?_eq_none (by simp; omega)] at hj
    cases hj
/-- what is drawn so far, with its last own word -/
structure Lw (rs : List Rec) (last : List Nat) : Prop where
  ok : ∀ r ∈ rs, OkR r
  sq : seqOk rs
  kw : ∃ k0, kws rs = k0 ++ [last]
  w : last = cs "begun" ∨ last = cs "asked" ∨ last = cs "answered"
theorem Lw.one {n : Nat} (h : n < 10 ^ 12) : Lw [.begun n] (cs "begun") :=
  { ok := fun r hr => by rw [List.mem_singleton.mp hr]; exact h
    sq := fun j r hj => by
      cases j with
      | zero => cases hj; rfl
      | succ j => cases hj
    kw := ⟨[], by unfold kws; rfl⟩
    w := .inl rfl }
theorem fol_more {rs : List Rec} {last : List Nat} (h : Lw rs last) (r : Rec) : fol rs r = (if wordR r = cs "begun" then false else if wordR r = cs "kept" then true else if wordR r = cs "answered" then decide (last = cs "asked") else ([cs "begun", cs "answered"] : List (List Nat)).contains last) := by
  obtain ⟨k0, hk⟩ := h.kw
  have n0 : rs ≠ [] := fun e => by
    rw [e] at hk
    cases k0 <;> cases hk
  unfold fol
  rw [if_neg n0, hk, List.getLast?_concat]
  by_cases c1 : wordR r = cs "begun"
  · rw [if_pos (.inl c1), if_pos c1]
  · rw [if_neg (fun o => o.elim c1 (by simp)), if_neg c1]
    simp only [Option.getD_some, Option.some.injEq]
theorem Lw.more {rs : List Rec} {last last' : List Nat} (h : Lw rs last) (r : Rec) (ok : OkR r) (hf : fol rs r = true) (hl : (wordR r = cs "kept" ∧ last' = last) ∨ (wordR r ≠ cs "kept" ∧ last' = wordR r)) (hw : last' = cs "begun" ∨ last' = cs "asked" ∨ last' = cs "answered") : Lw (rs ++ [r]) last' where
  ok := fun q hq => (List.mem_append.mp hq).elim (h.ok q) fun hq => by rw [List.mem_singleton.mp hq]; exact ok
  sq := seq_app h.sq hf
  kw := by
    rw [kws_app]
    rcases hl with ⟨c, rfl⟩ | ⟨c, rfl⟩
    · rw [if_pos c]; exact h.kw
    · rw [if_neg c]; exact ⟨_, rfl⟩
  w := hw
/-- records in a list -/
def RecAt (K : PySem.W.Frag) (H : Hp) (L : Addr) (rs : List Rec) : Prop := ∃ rv, H L = some (.lst rv) ∧ DpAll K H rv (rs.map recD)
theorem RecAt.sx {p L : Addr} {H H' : Hp} {rs : List Rec} (s : SX p H H') (hP : Pot H p) (n : L ≠ p) (h : RecAt K H L rs) : RecAt K H' L rs := by
  obtain ⟨rv, h1, h2⟩ := h
  exact ⟨rv, s.1 _ _ n h1, DpAll_kt (s.kt hP) (recs_only rs) h2⟩
theorem RecAt.put {L : Addr} {H : Hp} {rs : List Rec} {rv : List V} {v : V} {r : Rec} (h1 : H L = some (.lst rv)) (h2 : DpAll K H rv (rs.map recD)) (hv : Rv K H v r) : RecAt K (upd H L (.lst (rv ++ [v]))) L (rs ++ [r]) := by
  refine ⟨_, upd_same, DpAll_kt (Kt.upd h1 not_tupU_lst) (recs_only _) ?_⟩
  rw [List.map_append]
  exact h2.app (.cons hv .nil)
theorem sx_upd {p L : Addr} {H H1 : Hp} {o : HO} (hL : H L = none) (n : L ≠ p) (s : SX p H H1) : SX p H (upd H1 L o) := by
  refine ⟨fun b x nb hb => ?_, ?_⟩
  · rw [upd_ne (ne_of_none hb hL)]
    exact s.1 b x nb hb
  · obtain ⟨a, b, h, r⟩ := s.2
    exact ⟨a, b, by rw [upd_ne (Ne.symm n)]; exact h, r⟩
theorem sx_none {p L : Addr} {H H1 : Hp} (s : SX p H H1) (h : H1 L = none) (n : L ≠ p) : H L = none := by
  cases e : H L with
  | none => rfl
  | some o => rw [s.1 _ _ n e] at h; cases h
def sp_records (K : PySem.W.Frag) : Sp := fun vs H Q _ => ∃ (p : Addr) (m : Nat), vs = [.ref p, .int (m : Nat)] ∧ Pot H p ∧ m ≤ 30 ∧ ∀ H' l rv rs, SX p H H' → l ≠ p → H' l = some (.lst rv) → DpAll K H' rv (rs.map recD) → (∀ r ∈ rs, OkR r) → seqOk rs → rs.length = m + 1 → Q (.ref l) H'
theorem ok_records (T : Tx K mg) : FnOk P w K mg base CX0 7 T.f__law_records T.fd__law_records ["pot", "many"] (sp_records K) := by
  have G__law_draw := ok_draw (P := P) (w := w) (base := base) T
  have G__law_pick := ok_pick (P := P) (w := w) (base := base) T
  have G__law_data := ok_law_data (P := P) (w := w) (base := base) T 3
  have b__law_draw := T.d__law_draw.F.binds (ps := ["pot", "size"]) fun _ _ _ _ _ _ us hl => match us, hl with | [_, _], _ => rfl
  have b__law_pick := T.d__law_pick.F.binds (ps := ["pot", "some"]) fun _ _ _ _ _ _ us hl => match us, hl with | [_, _], _ => rfl
  have b__law_data := T.d__law_data.F.binds (ps := ["pot", "deep"]) fun _ _ _ _ _ _ us hl => match us, hl with | [_, _], _ => rfl
  refine T.d__law_records.F.ok sc__law_records (fun vs H Q E h => ?_) (fun cdv A outer s H vs Q E hr h => ?_)
  · obtain ⟨p, m, rfl, _⟩ := h
    rfl
  · obtain ⟨p, m, rfl, hP, hm, k⟩ := h
    have hu := hu_of hr
    have hu64 := hr.units
    refine ⟨_, (pss_cons (ps_par (i := 2) (j := 3) rfl sc__law_records.nd rfl rfl (by decide) rfl rfl (pa_cons (pe_lst (pa_cons (pe_tup (pa_cons (pe_lit "begun") (pa_cons (pe_call G__law_draw (hr.mono (by first | decide | omega)) rfl T.d__law_draw.g T.d__law_draw.F.kp b__law_draw .nil pass0 (pa_cons (pv 0) (pa_cons (pe_op op_pow pe_int pe_int) pa_nil))) pa_nil))) pa_nil)) (pa_cons (pe_lit "begun") pa_nil)) (by rfl))
      (pss_cons (ps_for PassesOwn.never rfl (pi_range1 (by rfl) T.n_range (pa_cons (pv 1) pa_nil)) (pg_name (i := 4) sc__law_records.nd rfl (Or.inl rfl)) (pss_one (ps_if (pt_cmpR (opEqB (K := K) rfl hu64) (pe_call G__law_draw (hr.mono (by first | decide | omega)) rfl T.d__law_draw.g T.d__law_draw.F.kp b__law_draw .nil pass0 (pa_cons (pv 0) (pa_cons pe_int pa_nil))) pe_int (nomark _)) (pss_one (ps_expr (pe_bm PySem.F.plainAttrs_list PySem.F.slot_list_append PySem.F.type_list_append mt_append (pv 2) (pa_cons (pe_tup (pa_cons (pe_lit "kept") (pa_cons (pe_call G__law_draw (hr.mono (by first | decide | omega)) rfl T.d__law_draw.g T.d__law_draw.F.kp b__law_draw .nil pass0 (pa_cons (pv 0) (pa_cons pe_int pa_nil))) (pa_cons (pe_call G__law_draw (hr.mono (by first | decide | omega)) rfl T.d__law_draw.g T.d__law_draw.F.kp b__law_draw .nil pass0 (pa_cons (pv 0) (pa_cons (pe_op op_pow pe_int pe_int) pa_nil))) pa_nil)))) pa_nil)))) (pss_one (ps_if (pt_cmpR (opEqB (K := K) rfl hu64) (pv 3) (pe_lit "asked") (nomark _)) (pss_cons (ps_expr (pe_bm PySem.F.plainAttrs_list PySem.F.slot_list_append PySem.F.type_list_append mt_append (pv 2) (pa_cons (pe_tup (pa_cons (pe_lit "answered") (pa_cons (pe_call G__law_data (hr.mono (by first | decide | omega)) rfl T.d__law_data.g T.d__law_data.F.kp b__law_data .nil pass0 (pa_cons (pv 0) (pa_cons pe_int pa_nil))) pa_nil))) pa_nil)))
      (pss_one (ps_set (i := 3) sc__law_records.nd rfl (Or.inl rfl) (pe_lit "answered")))) (pss_cons (ps_expr (pe_bm PySem.F.plainAttrs_list PySem.F.slot_list_append PySem.F.type_list_append mt_append (pv 2) (pa_cons (pe_tup (pa_cons (pe_lit "asked") (pa_cons (pe_call G__law_pick (hr.mono (by first | decide | omega)) rfl T.d__law_pick.g T.d__law_pick.F.kp b__law_pick .nil pass0 (pa_cons (pv 0) (pa_cons (pe_lst (pa_cons (pe_lit "Get") (pa_cons (pe_lit "Put2") (pa_cons (pe_lit "Fail") pa_nil)))) pa_nil))) (pa_cons (pe_call G__law_data (hr.mono (by first | decide | omega)) rfl T.d__law_data.g T.d__law_data.F.kp b__law_data .nil pass0 (pa_cons (pv 0) (pa_cons pe_int pa_nil))) pa_nil)))) pa_nil)))
      (pss_one (ps_set (i := 3) sc__law_records.nd rfl (Or.inl rfl) (pe_lit "asked")))))))))
      (pss_one (ps_ret (pv 2))))), ?_⟩
    tm_at "rd"
    refine q_rI (show CPow 10 8 from ⟨by decide, by decide, by decide⟩) ?_
    rw [show (10 : Int) ^ (8 : Int).toNat = 100000000 by decide]
    tm_at "rd"
    refine ⟨p, _, rfl, hP, by omega, by omega, fun H1 z s1 z1 z2 => ?_⟩
    tm_at "rd"
    intro q hq
    have s2 := SX.of s1.2 (same_new (o := .tup [.str (tx (cs "begun")), .int z]) hq)
    obtain ⟨n0, rfl⟩ := Int.eq_ofNat_of_zero_le z1
    have hv : Rv K (upd H1 q (.tup [.str (tx (cs "begun")), .int (n0 : Nat)])) (.ref q) (.begun n0) := .tup (SqT.of upd_same) (.cons (.str _) (.cons (.int _) .nil))
    have s12 := s1.trans s2
    change SX p H (upd H1 q (.tup [.str (tx (cs "begun")), .int (n0 : Nat)])) at s12
    generalize upd H1 q (.tup [.str (tx (cs "begun")), .int (n0 : Nat)]) = H2 at hv s12
    clear s1 s2 hq
    repeat (with_reducible first | refine r_nil ?_ | refine r_c ?_ | refine r_cons ?_ | refine r_name ?_ | refine r_two ?_)
    refine ⟨small_n (by simp), fun L hL => ?_⟩
    have nL := s12.2.ne hL
    have hL0 := sx_none s12 hL nL
    have s3 := s12.then (same_new (o := .lst [.ref q]) hL)
    have hA : RecAt K (upd H2 L (.lst [.ref q])) L [.begun n0] := ⟨_, upd_same, .cons (hv.same (same_new hL)) .nil⟩
    generalize upd H2 L (.lst [.ref q]) = H3 at s3 hA
    repeat (with_reducible first | refine r_nil ?_ | refine r_c ?_ | refine r_cons ?_ | refine r_name ?_ | refine r_two ?_)
    dsimp only
    tm_at "rd"
    have e12 : (10 : Nat) ^ 12 = 1000000000000 := by decide
    refine ⟨m, rfl, by omega, by omega, ?_⟩
    refine for_it (walk_range (lo := 0) (n := ((m : Nat) : Int).toNat)) (fun i σ Hc => ∃ (o4 : Option V) (last : List Nat) (rs : List Rec), σ = [some (.ref p), some (.int (m : Nat)), some (.ref L), some (.str (tx last)), o4] ∧ SX p H Hc ∧ RecAt K Hc L rs ∧ Lw rs last ∧ rs.length = i + 1) ⟨none, cs "begun", _, rfl, s3, hA, .one (by omega), rfl⟩ (fun _ _ _ _ _ => trivial) ?_ ?_
    · clear s3 hA hv s12
      rintro i x σ Hc Hc' hi ⟨o4, last, rs, rfl, s3, ⟨rv, hL3, hA⟩, hw, hlen⟩ ⟨rfl, rfl⟩
      have hal := hA.length
      rw [List.length_map] at hal
      have hsz : rv.length < sizeLine := Nat.lt_of_le_of_lt (by omega : rv.length ≤ 200) (by decide)
      tm_at "rd"
      refine ⟨p, 4, rfl, s3.2, by decide, by decide, fun H4 r s4 r1 r2 => ?_⟩
      have hA4 := DpAll_kt (s4.kt s3.2) (recs_only rs) hA
      have hL4 := s4.1 _ _ nL hL3
      have s34 := s3.trans s4
      clear hA hL3 s3 s4
      tm_at "rd"
      refine bd (fun c1 => ?_) (fun c1 => ?_)
      · tm_at "rd"
        refine ⟨ty_l hL4, ?_⟩
        tm_at "rd"
        refine ⟨p, 1000, rfl, s34.2, by decide, by decide, fun H5 a s5 a1 a2 => ?_⟩
        tm_at "rd"
        refine q_rI (show CPow 10 9 from ⟨by decide, by decide, by decide⟩) ?_
        rw [show (10 : Int) ^ (9 : Int).toNat = 1000000000 by decide]
        tm_at "rd"
        refine ⟨p, 1000000000, rfl, s5.2, by decide, by decide, fun H6 b s6 b1 b2 => ?_⟩
        have s56 := s5.trans s6
        have hA6 := DpAll_kt (s56.kt s34.2) (recs_only rs) hA4
        have hL6 := s56.1 _ _ nL hL4
        have s36 := s34.trans s56
        obtain ⟨na, rfl⟩ := Int.eq_ofNat_of_zero_le a1
        obtain ⟨nb, rfl⟩ := Int.eq_ofNat_of_zero_le b1
        tm_at "rd"
        intro q2 hq2
        have s7 := same_new (o := .tup [.str (tx (cs "kept")), .int (na : Nat), .int (nb : Nat)]) hq2
        have hv : Rv K (upd H6 q2 (.tup [.str (tx (cs "kept")), .int (na : Nat), .int (nb : Nat)])) (.ref q2) (.kept na nb) := .tup (SqT.of upd_same) (.cons (.str _) (.cons (.int _) (.cons (.int _) .nil)))
        have s37 := s36.then s7
        have hA7 := hA6.same s7
        have hL7 := s7 _ _ hL6
        change Rv K (upd H6 q2 (.tup [.str (tx (cs "kept")), .int (Int.ofNat na), .int (Int.ofNat nb)])) (.ref q2) (.kept na nb) at hv
        generalize upd H6 q2 (.tup [.str (tx (cs "kept")), .int (Int.ofNat na), .int (Int.ofNat nb)]) = H7 at hv s37 hA7 hL7
        tm_at "rd"
        refine ⟨L, rv, .ref q2, rfl, rfl, hL7, hsz, ?_⟩
        refine ⟨_, last, rs ++ [.kept na nb], rfl, sx_upd hL0 nL s37, .put hL7 hA7 hv, ?_, by simp [hlen]⟩
        refine hw.more _ ⟨?_, ?_⟩ ?_ (.inl ⟨rfl, rfl⟩) hw.w
        · omega
        · omega
        · rw [fol_more hw, if_neg (show ¬ wordR (.kept na nb) = cs "begun" from (by decide : ¬ cs "kept" = cs "begun")), if_pos (show wordR (.kept na nb) = cs "kept" from rfl)]
      · tm_at "rd"
        refine bd (fun c2 => ?_) (fun c2 => ?_)
        · tm_at "rd"
          refine ⟨ty_l hL4, ?_⟩
          tm_at "rd"
          refine ⟨p, rfl, s34.2, by decide, fun H5 v t s5 hv ok5 d5 => ?_⟩
          have hA5 := DpAll_kt (s5.kt s34.2) (recs_only rs) hA4
          have hL5 := s5.1 _ _ nL hL4
          have s35 := s34.trans s5
          tm_at "rd"
          intro q2 hq2
          have s7 := same_new (o := .tup [.str (tx (cs "answered")), v]) hq2
          have hv7 : Rv K (upd H5 q2 (.tup [.str (tx (cs "answered")), v])) (.ref q2) (.answered t) := .tup (SqT.of upd_same) (.cons (.str _) (.cons (hv.same s7) .nil))
          have s37 := s35.then s7
          have hA7 := hA5.same s7
          have hL7 := s7 _ _ hL5
          generalize upd H5 q2 (.tup [.str (tx (cs "answered")), v]) = H7 at hv7 s37 hA7 hL7
          tm_at "rd"
          refine ⟨L, rv, .ref q2, rfl, rfl, hL7, hsz, ?_⟩
          tm_at "rd"
          refine ⟨_, cs "answered", rs ++ [.answered t], rfl, sx_upd hL0 nL s37, .put hL7 hA7 hv7, ?_, by simp [hlen]⟩
          refine hw.more _ ⟨ok5, by omega⟩ ?_ (.inr ⟨(by decide : ¬ cs "answered" = cs "kept"), rfl⟩) (by simp)
          rw [fol_more hw, if_neg (show ¬ wordR (.answered t) = cs "begun" from (by decide : ¬ cs "answered" = cs "begun")), if_neg (show ¬ wordR (.answered t) = cs "kept" from (by decide : ¬ cs "answered" = cs "kept")), if_pos (show wordR (.answered t) = cs "answered" from rfl), decide_eq_true c2]
        · tm_at "rd"
          refine ⟨ty_l hL4, ?_⟩
          tm_at "rd"
          intro M hM
          tm_at "rd"
          refine pick_at s34.2 hM (by simp) (by simp) fun x hx H5 s5 => ?_
          obtain ⟨nm, rfl, hnm⟩ : ∃ nm, x = .str (tx nm) ∧ nm ∈ asks := by
            simp only [List.mem_cons, List.not_mem_nil, or_false] at hx
            rcases hx with rfl | rfl | rfl
            · exact ⟨_, rfl, by decide⟩
            · exact ⟨_, rfl, by decide⟩
            · exact ⟨_, rfl, by decide⟩
          tm_at "rd"
          refine ⟨p, rfl, s5.2, by decide, fun H6 v t s6 hv ok6 d6 => ?_⟩
          have s56 := s5.trans s6
          have hA6 := DpAll_kt (s56.kt s34.2) (recs_only rs) hA4
          have hL6 := s56.1 _ _ nL hL4
          have s36 := s34.trans s56
          tm_at "rd"
          intro q2 hq2
          have s7 := same_new (o := .tup [.str (tx (cs "asked")), .str (tx nm), v]) hq2
          have hv7 : Rv K (upd H6 q2 (.tup [.str (tx (cs "asked")), .str (tx nm), v])) (.ref q2) (.asked nm t) := .tup (SqT.of upd_same) (.cons (.str _) (.cons (.str _) (.cons (hv.same s7) .nil)))
          have s37 := s36.then s7
          have hA7 := hA6.same s7
          have hL7 := s7 _ _ hL6
          generalize upd H6 q2 (.tup [.str (tx (cs "asked")), .str (tx nm), v]) = H7 at hv7 s37 hA7 hL7
          tm_at "rd"
          refine ⟨L, rv, .ref q2, rfl, rfl, hL7, hsz, ?_⟩
          tm_at "rd"
          refine ⟨_, cs "asked", rs ++ [.asked nm t], rfl, sx_upd hL0 nL s37, .put hL7 hA7 hv7, ?_, by simp [hlen]⟩
          refine hw.more _ ⟨hnm, ok6, by omega⟩ ?_ (.inr ⟨(by decide : ¬ cs "asked" = cs "kept"), rfl⟩) (by simp)
          rw [fol_more hw, if_neg (show ¬ wordR (.asked nm t) = cs "begun" from (by decide : ¬ cs "asked" = cs "begun")), if_neg (show ¬ wordR (.asked nm t) = cs "kept" from (by decide : ¬ cs "asked" = cs "kept")), if_neg (show ¬ wordR (.asked nm t) = cs "answered" from (by decide : ¬ cs "asked" = cs "answered"))]
          rcases hw.w with rfl | rfl | rfl
          · rfl
          · exact absurd rfl c2
          · rfl
    · rintro σ Hc ⟨o4, last, rs, rfl, s4, ⟨rv, hL4, hA4⟩, hw, hlen⟩
      tm_at "rd"
      exact k _ L rv rs s4 nL hL4 hA4 hw.ok hw.sq (by omega)
end
end K68

set_option maxHeartbeats 4000000
/-! W68n: a reading is right. -/
namespace K68
open PySem PySem.Spec PyProof.Rows L2 TL Ak Kd Jn
local macro_rules | `(tactic| tm_at "rd1") => `(tactic| with_reducible first
  | refine r_seq ?_ | refine r_ifS ?_ | refine r_ret ?_ | refine r_asg ?_ | refine r_next ?_ | refine r_drop ?_ | refine r_par ?_ | refine r_brk ?_ | refine r_cont ?_
  | refine r_op ?_ | refine r_c ?_ | refine r_cb ?_ | refine r_cons ?_ | refine r_nil ?_ | refine r_un ?_ | refine r_tB ?_ | refine r_test ?_ | refine r_not ?_ | refine r_and ?_ | refine r_or ?_ | refine r_andV ?_ | refine r_orV ?_ | refine r_notV ?_ | refine r_if ?_ | refine r_chain ?_
  | refine r_tup ?_ | refine r_lst ?_ | refine r_lstN ?_ | refine r_sl ?_ | refine r_part ?_ | refine r_nopart ?_ | refine r_call ?_ | refine r_callK ?_ | refine r_bm ?_ | refine r_bm0 ?_ | refine r_m1 ?_ | refine r_m0 ?_ | refine r_isN ?_ | refine r_notN ?_
  | refine r_gcons ?_ | refine r_gnil ?_ | refine r_gsub ?_ | refine r_name ?_ | refine r_ilist ?_ | refine r_itup ?_ | refine r_istr ?_ | refine r_irng1 ?_ | refine r_ienum ?_ | refine r_mko ?_ | refine r_yes ?_ | refine r_lc ?_ | refine r_for ?_ | refine turn_i ?_
  | refine r_dput ?_ | refine r_dget ?_ | refine r_izipA ?_ | refine r_ienumT ?_ | refine r_back ?_ | refine r_dsetd ?_ | refine r_dgetN ?_ | refine r_dnotinN ?_ | refine r_isTr ?_ | refine r_lockAsg ?_ | refine r_bl ?_ | refine r_int ?_ | refine r_two ?_ | refine r_str ?_ | refine r_two1 ?_
  | refine b_t ?_ | refine b_f ?_ | refine b_nt ?_ | refine b_nf ?_ | refine q_u ?_ | refine q_i0 ?_ | refine q_ipI ?_ | refine b_add_int ?_ | refine b_eq_int ?_ | refine b_ne_int ?_ | refine b_eq_tx ?_ | refine b_ne_tx ?_ | refine b_in_sg ?_ | refine q_ni_sg ?_)
local macro_rules | `(tactic| tm_at "rd2") => `(tactic| first
  | tm_at "rd1" | refine r_var rfl ?_ | refine r_aug rfl ?_ 
  | refine And.intro (small_n (by simp)) ?_ | tm_at "rdl" | tm_at "rdk")
local macro_rules | `(tactic| tm_at "rdk") => `(tactic| with_reducible first | refine b_isStrV ?_ | refine b_isBlV ?_ | refine b_isIntV ?_ | refine b_isIntB ?_ | refine b_isTupS (by assumption) ?_ | refine b_isTup (by assumption) ?_ | refine b_isInt (by assumption) ?_ | refine b_isBl (by assumption) ?_ | refine b_isStr (by assumption) ?_ | refine b_isLst (by assumption) ?_)
local macro_rules | `(tactic| tm_at "rdl") => `(tactic| first | (with_reducible refine q_len_tx (by assumption) ?_) | (with_reducible refine q_len_tx (by omega) ?_) | (with_reducible refine q_lenB_tx (by assumption) ?_) | (with_reducible refine q_lenB_tx (by omega) ?_))
local macro_rules | `(tactic| tm_at "rd") => `(tactic| repeat tm_at "rd2")
local macro_rules | `(tactic| tm_at "rdw") => `(tactic| repeat (first | tm_at "rd2" | with_reducible refine bd_t rfl ?_ | with_reducible refine bd_f (by decide) ?_ | with_reducible refine bnd_f rfl ?_ | with_reducible refine bnd_t (by decide) ?_))

theorem canLay_rec {r : Rec} (ok : OkR r) : (recD r).canLay0 = true := by
  have ha : ∀ nm ∈ asks, nm.all (fun c => decide (c < 128)) = true := by decide
  cases r with
  | begun n => simp only [recD, partsR, wordR, PyData.canLay0, PyData.canLayAll0, strOk_tx (show (cs "begun").all (fun c => decide (c < 128)) = true by decide)]; rfl
  | kept a b => simp only [recD, partsR, wordR, PyData.canLay0, PyData.canLayAll0, strOk_tx (show (cs "kept").all (fun c => decide (c < 128)) = true by decide)]; rfl
  | asked nm t => simp only [recD, partsR, wordR, PyData.canLay0, PyData.canLayAll0, strOk_tx (show (cs "asked").all (fun c => decide (c < 128)) = true by decide), strOk_tx (ha nm ok.1), canLay_tl]; rfl
  | answered t => simp only [recD, partsR, wordR, PyData.canLay0, PyData.canLayAll0, strOk_tx (show (cs "answered").all (fun c => decide (c < 128)) = true by decide), canLay_tl]; rfl
theorem canLay_recs : ∀ {rs : List Rec}, (∀ r ∈ rs, OkR r) → PyData.canLayAll0 (rs.map recD) = true
  | [], _ => rfl
  | r :: rs, h => by
    simp only [List.map_cons, PyData.canLayAll0, canLay_rec (h r List.mem_cons_self), canLay_recs (rs := rs) fun x hx => h x (List.mem_cons_of_mem _ hx)]
    rfl
theorem depth_rec {r : Rec} (ok : OkR r) : (recD r).depth ≤ 10 := by
  cases r with
  | begun n => simp [recD, partsR, PyData.depth, PyData.depthAll]
  | kept a b => simp [recD, partsR, PyData.depth, PyData.depthAll]
  | asked nm t =>
    have := depth_tl t
    have := ok.2.2
    simp only [recD, partsR, PyData.depth, PyData.depthAll]
    omega
  | answered t =>
    have := depth_tl t
    have := ok.2
    simp only [recD, partsR, PyData.depth, PyData.depthAll]
    omega
theorem depth_recs : ∀ {rs : List Rec}, (∀ r ∈ rs, OkR r) → PyData.depthAll (rs.map recD) ≤ 10
  | [], _ => Nat.zero_le _
  | r :: rs, h => by
    have h1 := depth_rec (h r List.mem_cons_self)
    have h2 := depth_recs (rs := rs) fun x hx => h x (List.mem_cons_of_mem _ hx)
    simp only [List.map_cons, PyData.depthAll]
    omega
theorem shaped_recs {rs : List Rec} (h : ∀ r ∈ rs, OkR r) : SeqAt.shaped (.list (rs.map recD)) = true := by
  have := depth_recs h
  unfold SeqAt.shaped
  rw [Bool.and_eq_true, decide_eq_true_eq]
  refine ⟨canLay_recs h, ?_⟩
  simp only [PyData.depth]
  omega
theorem dp_recs {K : PySem.W.Frag} {H : Hp} {L : Addr} {rs : List Rec} (h : RecAt K H L rs) : Dp K H (.ref L) (.list (rs.map recD)) := by
  obtain ⟨rv, h1, h2⟩ := h
  exact .lst (SqL.of h1) h2
theorem eqv_recs {rs : List Rec} (h : ∀ r ∈ rs, OkR r) : PyData.eqv (.list (rs.map recD)) (.list (rs.map recD)) = true := SeqAt.eqv_refl _ (SeqAt.canLay_of_shaped (shaped_recs h))
theorem b_frontL {K : PySem.W.Frag} {H : Hp} {Q : VK} {a : Addr} {xs : List V} {i : Nat} (h : H a = some (.lst xs)) (q : ∀ b, H b = none → Q (.ref b) (upd H b (.lst (xs.take i)))) : rSlB K (.ref a) none (some (i : Int)) H Q := .inl ⟨a, xs, rfl, SqL.of h, fun p hp => by rw [cut_to]; exact q p hp⟩
theorem b_frontR {K : PySem.W.Frag} {H : Hp} {Q : VK} {a : Addr} {rs : List Rec} {i : Nat} (h : RecAt K H a rs) (q : ∀ b H', Same H H' → H b = none → RecAt K H' b (rs.take i) → Q (.ref b) H') : rSlB K (.ref a) none (some (i : Int)) H Q := by
  obtain ⟨rv, h1, h2⟩ := h
  refine b_frontL h1 fun b hb => q b _ (same_new hb) hb ⟨_, upd_same, ?_⟩
  rw [List.map_take]
  exact Ak.DpAll.take i (h2.same (same_new hb))
theorem RecAt.same {K : PySem.W.Frag} {H H' : Hp} {L : Addr} {rs : List Rec} (h : RecAt K H L rs) (s : Same H H') : RecAt K H' L rs := by
  obtain ⟨rv, h1, h2⟩ := h
  exact ⟨rv, s _ _ h1, h2.same s⟩
theorem ok_take {rs : List Rec} (h : ∀ r ∈ rs, OkR r) (k : Nat) : ∀ r ∈ rs.take k, OkR r := fun r hr => h r (List.mem_of_mem_take hr)
theorem seq_take {rs : List Rec} (h : seqOk rs) (k : Nat) : seqOk (rs.take k) := fun j r hj => by
  have hjk : j < k := by
    rcases Nat.lt_or_ge j k with c | c
    · exact c
    · rw [List.getElem?_eq_none (by rw [List.length_take]; omega)] at hj; cases hj
  rw [List.getElem?_take_of_lt hjk] at hj
  rw [List.take_take, Nat.min_eq_left (by omega)]
  exact h j r hj
section
variable {P : Program} {w : World} {K : PySem.W.Frag} {mg : Str → Option Value} {base : Heap}
def sp_right (K : PySem.W.Frag) : Sp := fun vs H Q _ => ∃ (l : Addr) (rs : List Rec) (k : Nat) (tail : List Nat), vs = [.ref l, .int (k : Nat), .str (tx (linesFrom 0 (rs.take k) ++ tail))] ∧ RecAt K H l rs ∧ (∀ r ∈ rs, OkR r) ∧ seqOk rs ∧ rs.length ≤ 40 ∧ tail.length ≤ 40000 ∧ Tail (rs.take k) tail ∧ ∀ H', Same H H' → Q (.bl true) H'
theorem ok_right (T : Tx K mg) (D : Td K mg w) : FnOk P w K mg base CX0 20 T.f__law_is_right T.fd__law_is_right ["records", "many", "text"] (sp_right K) := by
  have G_read_journal := ok_read_journal (P := P) (w := w) (base := base) T D
  have G_record_line := ok_record_line (P := P) (w := w) (base := base) T D
  have G_are_records := ok_are_records (P := P) (w := w) (base := base) T D
  have G_journal_text := ok_journal_text (P := P) (w := w) (base := base) T D
  have b_read_journal := T.d_read_journal.F.binds (ps := ["text"]) fun _ _ _ _ _ _ us hl => match us, hl with | [_], _ => rfl
  have b_record_line := T.d_record_line.F.binds (ps := ["number", "record"]) fun _ _ _ _ _ _ us hl => match us, hl with | [_, _], _ => rfl
  have b_are_records := T.d_are_records.F.binds (ps := ["value"]) fun _ _ _ _ _ _ us hl => match us, hl with | [_], _ => rfl
  have b_journal_text := T.d_journal_text.F.binds (ps := ["records"]) fun _ _ _ _ _ _ us hl => match us, hl with | [_], _ => rfl
  refine T.d__law_is_right.F.ok sc__law_is_right (fun vs H Q E h => ?_) (fun cdv A outer s H vs Q E hr h => ?_)
  · obtain ⟨l, rs, k, tail, rfl, _⟩ := h
    rfl
  · obtain ⟨l, rs, kk, tail, rfl, hR, hok, hsq, hz, hzt, htl, k⟩ := h
    have hu := hu_of hr
    have hu64 := hr.units
    refine ⟨_, (pss_cons (ps_asg (pe_call G_read_journal (hr.mono (by first | decide | omega)) rfl T.d_read_journal.g T.d_read_journal.F.kp b_read_journal .nil pass0 (pa_cons (pv 2) pa_nil)) (pg_tup rfl (pgs_cons (pg_name (i := 3) sc__law_is_right.nd rfl (Or.inl rfl)) (pgs_cons (pg_name (i := 4) sc__law_is_right.nd rfl (Or.inl rfl)) pgs_nil))))
      (pss_cons (ps_set (i := 5) sc__law_is_right.nd rfl (Or.inl rfl) (pe_joinK (K := K) rfl (pe_lit "") (pe_lc (own := [("number", 6), ("record", 7)]) (g := (gTup K 2 (gCons (gName 6) (gCons (gName 7) gNil)))) rfl sc__law_is_right.nd (pi_enum (by rfl) T.n_enumerate (pa_cons (pe_slice (slB (K := K) rfl) (pv 0) po_none (po_some (pv 1))) pa_nil)) (blkOk_by (own := [("number", 6), ("record", 7)]) (N := nm__law_is_right) (sc := defScope s__law_is_right) (by decide +kernel)) (fun _ _ _ _ _ => pg_tup rfl (pgs_cons (pg_name (i := 6) sc__law_is_right.nd rfl (Or.inl rfl)) (pgs_cons (pg_name (i := 7) sc__law_is_right.nd rfl (Or.inl rfl)) pgs_nil))) (fun _ _ _ _ _ => pts_nil) (fun _ _ _ _ _ => (pe_call G_record_line (hr.mono (by first | decide | omega)) rfl T.d_record_line.g T.d_record_line.F.kp b_record_line .nil pass0 (pa_cons (pv 6) (pa_cons (pv 7) pa_nil)))))))
      (pss_one (ps_ret (pe_and (pe_cmpR (opEqB (K := K) rfl hu64) (pv 3) (pe_slice (slB (K := K) rfl) (pv 0) po_none (po_some (pv 1))) (nomark _)) (pe_and (pe_cmpR (opEqB (K := K) rfl hu64) (pv 4) (pe_callB (caLenB (K := K) rfl) (by rfl) T.n_len (by decide +kernel) (pa_cons (pv 5) pa_nil)) (nomark _)) (pe_and (pe_cmpR (opEqB (K := K) rfl hu64) (pe_slice (slB (K := K) rfl) (pv 2) po_none (po_some (pv 4))) (pv 5) (nomark _)) (pe_and (pe_cmp (pc_isTr (pe_call G_are_records (hr.mono (by first | decide | omega)) rfl T.d_are_records.g T.d_are_records.F.kp b_are_records .nil pass0 (pa_cons (pv 3) pa_nil))) rfl) (pe_one (pe_cmpR (opEqB (K := K) rfl hu64) (pe_call G_journal_text (hr.mono (by first | decide | omega)) rfl T.d_journal_text.g T.d_journal_text.F.kp b_journal_text .nil pass0 (pa_cons (pv 3) pa_nil)) (pv 5) (nomark _))))))))))), ?_⟩
    have hokt := ok_take hok kk
    have hsqt := seq_take hsq kk
    have hlt : (rs.take kk).length ≤ 40 := by rw [List.length_take]; omega
    have hln := lines_len hokt 0 (by omega)
    tm_at "rd"
    refine ⟨rs.take kk, tail, rfl, hokt, hsqt, by omega, hzt, htl, fun H1 p L rv s1 hL0 hp hL hA => ?_⟩
    have hT1 : RecAt K H1 L (rs.take kk) := ⟨rv, hL, hA⟩
    have hR1 := hR.same s1
    clear hL0 hL hA
    refine r_gtup (SqT.of hp) rfl ?_
    tm_at "rd"
    refine b_frontR hR1 fun M H2 s2 _ hM => ?_
    have hT2 := hT1.same s2
    have hR2 := hR1.same s2
    have s12 := s1.trans s2
    clear hT1 hR1 hp
    tm_at "rd"
    obtain ⟨mv, hm1, hm2⟩ := id hM
    have hal := hm2.length
    rw [List.length_map] at hal
    refine ⟨M, mv, rfl, SqL.of hm1, fun D0 hD => ?_⟩
    refine lc_gen (walk_enum (K := K) (a := M) (xs := mv)) (fun j => .str (tx (line (0 + j) ((rs.take kk).getD j (.begun 0))))) (Nat.lt_of_le_of_lt (by omega : mv.length ≤ 500) (by decide)) (fun H3 s3 => SqL.of (s3 _ _ hm1)) (fun j x H3 H4 _ s3 y => ?_) (fun j x H3 H4 hj s3 y Q3 R3 q => ?_) hD (fun H3 s3 h3 => ?_)
    · obtain ⟨T', x', y', rfl, hT, rfl, _, _⟩ := y
      exact same_new hT
    · obtain ⟨T', x', y', rfl, hT, rfl, hx, hy⟩ := y
      obtain rfl : x' = .int (j : Nat) := (Option.some.inj hx).symm
      obtain ⟨d, hd1, hd2⟩ := dp_at (hm2.same s3) hy
      rw [List.getElem?_map] at hd1
      obtain ⟨rj, ej, rfl⟩ := Option.map_eq_some_iff.mp hd1
      rw [List.getD_eq_getElem?_getD, ej, Nat.zero_add] at q
      have e12 : (500 : Nat) < 10 ^ 12 := by decide
      refine r_gtup (SqT.of upd_same) rfl ?_
      tm_at "rd"
      refine ⟨rfl, ?_⟩
      tm_at "rd"
      exact ⟨y', rj, j, rfl, by omega, hd2.same (same_new hT), hokt rj (List.mem_of_getElem? ej), fun H4 s4 => q _ s4⟩
    have e1 : (List.range mv.length).map (fun j => V.str (tx (line (0 + j) ((rs.take kk).getD j (.begun 0))))) = (((rs.take kk).zipIdx 0).map fun x => line x.2 x.1).map fun p => V.str (tx p) := by
      rw [hal, ← lines_range (rs.take kk) 0, List.map_map]
      rfl
    rw [e1] at h3
    tm_at "rd"
    refine ⟨tx [], D0, (((rs.take kk).zipIdx 0).map fun x => line x.2 x.1).map tx, rfl, rfl, .inl (SqL.of (by rw [h3, strs_tx])), ?_, ?_⟩
    · rw [sum_tx, show (tx []).length = 0 from rfl]
      have e3 : ((((rs.take kk).zipIdx 0).map fun x => (line x.2 x.1 : List Nat)).map (fun p : List Nat => p.length)).sum = (linesFrom 0 (rs.take kk)).length := by rw [← lines_flat, List.length_flatten]
      refine Nat.le_trans (Nat.le_of_eq (show _ = (linesFrom 0 (rs.take kk)).length from by rw [Nat.mul_zero, Nat.add_zero]; exact e3)) ?_
      omega
    rw [join0, lines_flat]
    have hT3 := hT2.same s3
    have hR3 := hR2.same s3
    have s13 := s12.trans s3
    clear hT2 hR2 h3 hm1 hm2 hM hD e1
    change gName 5 (.str (tx (linesFrom 0 (rs.take kk)))) _ H3 _
    tm_at "rd"
    refine b_frontR hR3 fun M2 H4 s4 _ hM2 => ?_
    have hT4 := hT3.same s4
    refine .inl (q_eq_dat (dp_recs hT4) (dp_recs hM2) (shaped_recs hokt) (shaped_recs hokt) ?_)
    rw [eqv_recs hokt]
    have s14 := s13.trans s4
    have hall : (linesFrom 0 (rs.take kk) ++ tail).length ≤ 100000 := by rw [List.length_append]; omega
    tm_at "rd"
    rw [decide_eq_true rfl]
    tm_at "rd"
    refine b_front_tx hall ?_
    rw [List.take_left]
    tm_at "rd"
    rw [decide_eq_true rfl]
    tm_at "rd"
    obtain ⟨tv, ht1, ht2⟩ := hT4
    refine ⟨L, tv, rs.take kk, rfl, ht1, ht2, hokt, hsqt, by omega, fun H5 s5 => ?_⟩
    tm_at "rd"
    refine ⟨L, tv, rs.take kk, rfl, s5 _ _ ht1, ht2.same s5, hokt, hsqt, by omega, fun H6 s6 => ?_⟩
    tm_at "rd"
    rw [decide_eq_true rfl]
    exact k _ ((s14.trans s5).trans s6)
end
end K68

set_option maxHeartbeats 4000000
/-! W68o: texts cut and spoilt, in plain Lean. -/
namespace K68
open PySem PySem.Spec PyProof.Rows L2 TL Ak Kd Jn
def lns (rs : List Rec) : List (List Nat) := (rs.zipIdx 0).map fun x => line x.2 x.1
theorem lns_flat (rs : List Rec) : (lns rs).flatten = linesFrom 0 rs := lines_flat rs 0
theorem lns_length (rs : List Rec) : (lns rs).length = rs.length := by simp [lns]
theorem lns_at {rs : List Rec} {j : Nat} {r : Rec} (h : rs[j]? = some r) : (lns rs)[j]? = some (line j r) := by
  unfold lns
  rw [List.getElem?_map, List.getElem?_zipIdx, h]
  simp
theorem zip_take {α : Type} : ∀ (l : List α) (k n : Nat), (l.take k).zipIdx n = (l.zipIdx n).take k
  | [], k, n => by simp
  | a :: l, 0, n => by simp
  | a :: l, k + 1, n => by rw [List.take_succ_cons, List.zipIdx_cons, List.zipIdx_cons, List.take_succ_cons, zip_take l k (n + 1)]
theorem lns_take (rs : List Rec) (k : Nat) : lns (rs.take k) = (lns rs).take k := by
  unfold lns
  rw [← List.map_take, zip_take]
def endOf (rs : List Rec) (j : Nat) : Nat := (linesFrom 0 (rs.take (j + 1))).length
theorem take_len_mono (rs : List Rec) {i j : Nat} (h : i ≤ j) : (linesFrom 0 (rs.take i)).length ≤ (linesFrom 0 (rs.take j)).length := by
  have := lines_mono (rs := rs.take j) (i := i)
  rwa [List.take_take, Nat.min_eq_left h] at this
theorem count_ends {f : Nat → Nat} (hf : ∀ i j, i ≤ j → f i ≤ f j) (g : Nat → V) (x : Nat) : ∀ n, ∃ k, k ≤ n ∧ ((List.range n).filterMap fun j => if f j ≤ x then some (g j) else none).length = k ∧ (∀ j, j < k → f j ≤ x) ∧ ∀ j, k ≤ j → j < n → x < f j
  | 0 => ⟨0, Nat.le_refl _, rfl, fun j h => by omega, fun j _ h => by omega⟩
  | n + 1 => by
    obtain ⟨k, h1, h2, h3, h4⟩ := count_ends hf g x n
    rw [List.range_succ, List.filterMap_append, List.length_append, h2]
    by_cases c : f n ≤ x
    · have e : k = n := by
        rcases Nat.lt_or_ge k n with l | l
        · have a := h4 k (Nat.le_refl _) l
          have b := hf k n (by omega)
          omega
        · omega
      subst e
      refine ⟨k + 1, Nat.le_refl _, by simp [c], fun j hj => ?_, fun j a b => by omega⟩
      exact Nat.le_trans (hf j k (by omega)) c
    · refine ⟨k, by omega, by simp [c], h3, fun j a b => ?_⟩
      rcases Nat.lt_or_ge j n with l | l
      · exact h4 j a l
      · have : j = n := by omega
        subst this
        omega
/-- the number of ends up to x -/
def cnt (rs : List Rec) (x : Nat) : Nat := ((List.range rs.length).filterMap fun j => if endOf rs j ≤ x then some (V.int (endOf rs j : Nat)) else none).length
theorem cnt_at (rs : List Rec) (x : Nat) : cnt rs x ≤ rs.length ∧ (linesFrom 0 (rs.take (cnt rs x))).length ≤ x ∧ (cnt rs x < rs.length → x < (linesFrom 0 (rs.take (cnt rs x + 1))).length) := by
  obtain ⟨k, h1, h2, h3, h4⟩ := count_ends (f := endOf rs) (fun i j h => take_len_mono rs (by omega)) (fun j => V.int (endOf rs j : Nat)) x rs.length
  have e : cnt rs x = k := h2
  rw [e]
  refine ⟨h1, ?_, fun h => h4 k (Nat.le_refl _) h⟩
  cases k with
  | zero => exact Nat.zero_le _
  | succ j => exact h3 j (by omega)
/-- where a place within the text lies -/
theorem spot_at {rs : List Rec} {x : Nat} (h : x < (linesFrom 0 rs).length) : ∃ (k : Nat) (r : Rec) (i : Nat), cnt rs x = k ∧ rs[k]? = some r ∧ k < rs.length ∧ x = (linesFrom 0 (rs.take k)).length + i ∧ i ≤ (lineB k r).length ∧ linesFrom 0 rs = linesFrom 0 (rs.take k) ++ (lineB k r ++ 10 :: linesFrom (k + 1) (rs.drop (k + 1))) := by
  obtain ⟨h1, h2, h3⟩ := cnt_at rs x
  generalize cnt rs x = k at *
  have hk : k < rs.length := by
    rcases Nat.lt_or_ge k rs.length with c | c
    · exact c
    · rw [List.take_of_length_le c] at h2; omega
  have hr : rs[k]? = some rs[k] := List.getElem?_eq_getElem hk
  have hs := congrArg List.length (lines_succ hr)
  simp only [List.length_append, List.length_cons, List.length_nil] at hs
  have := h3 hk
  exact ⟨k, rs[k], x - (linesFrom 0 (rs.take k)).length, rfl, hr, hk, by omega, by omega, lines_at hr⟩
theorem more_len {rs : List Rec} (ok : ∀ r ∈ rs, OkR r) (hz : rs.length ≤ 40) {k : Nat} {r : Rec} (hr : rs[k]? = some r) (hk : k < rs.length) : (linesFrom (k + 1) (rs.drop (k + 1))).length ≤ 6400 ∧ (lineB k r).length ≤ 160 := by
  have h1 := lines_len ok 0 (by omega)
  have h2 := congrArg List.length (lines_at hr)
  have h3 := line_len (n := k) (by have : (40 : Nat) < 10 ^ 12 := by decide
                                   omega) (ok r (List.mem_of_getElem? hr))
  simp only [line, List.length_append, List.length_cons, List.length_nil] at h2 h3
  omega
theorem tk_len {rs : List Rec} {k : Nat} (h : k ≤ rs.length) : (rs.take k).length = k := by rw [List.length_take]; omega
/-- cut -/
theorem cut_tail {rs : List Rec} (ok : ∀ r ∈ rs, OkR r) (hz : rs.length ≤ 40) {x : Nat} (h : x ≤ (linesFrom 0 rs).length) : ∃ tail, (linesFrom 0 rs).take x = linesFrom 0 (rs.take (cnt rs x)) ++ tail ∧ tail.length ≤ 40000 ∧ Tail (rs.take (cnt rs x)) tail := by
  rcases Nat.lt_or_ge x (linesFrom 0 rs).length with c | c
  · obtain ⟨k, r, i, e1, hr, hk, e2, hi, e3⟩ := spot_at c
    have hm := more_len ok hz hr hk
    refine ⟨(lineB k r).take i, ?_, ?_, .inl ?_⟩
    · rw [e1, e2]
      conv => lhs; rw [e3]
      rw [List.take_length_add_append, List.take_append_of_le_length hi]
    · rw [List.length_take]; omega
    · exact fun hm => line_no10 (ok r (List.mem_of_getElem? hr)) (List.mem_of_mem_take hm)
  · have ex : x = (linesFrom 0 rs).length := by omega
    obtain ⟨h1, h2, h3⟩ := cnt_at rs x
    have hk : cnt rs x = rs.length := by
      rcases Nat.lt_or_ge (cnt rs x) rs.length with c2 | c2
      · have a := h3 c2
        have b := lines_mono (rs := rs) (i := cnt rs x + 1)
        omega
      · omega
    rw [hk, ex, List.take_length, List.take_length]
    exact ⟨[], by rw [List.append_nil], Nat.zero_le _, .inl (by simp)⟩
/-- what one sign at a place does -/
structure Spot (pre : List Rec) (t : List Nat) (x d : Nat) : Prop where
  sub : t.getD x 0 ≠ 10 → ∃ tail, t.take x ++ [d] ++ t.drop (x + 1) = linesFrom 0 pre ++ tail ∧ tail.length ≤ 40000 ∧ Tail pre tail
  del : ∃ tail, t.take x ++ t.drop (x + 1) = linesFrom 0 pre ++ tail ∧ tail.length ≤ 40000 ∧ Tail pre tail
  ins : ∃ tail, t.take x ++ [d] ++ t.drop x = linesFrom 0 pre ++ tail ∧ tail.length ≤ 40000 ∧ Tail pre tail
theorem spot_of {rs : List Rec} (ok : ∀ r ∈ rs, OkR r) (hz : rs.length ≤ 40) {x d : Nat} (h : x < (linesFrom 0 rs).length) (hd : d ≠ (linesFrom 0 rs).getD x 0) (d1 : 10 < d) (d2 : d < 128) : Spot (rs.take (cnt rs x)) (linesFrom 0 rs) x d := by
  obtain ⟨k, r, i, e1, hr, hk, e2, hi, e3⟩ := spot_at h
  have okr := ok r (List.mem_of_getElem? hr)
  have hm := more_len ok hz hr hk
  have hlow := line_low (n := k) okr
  have hno := line_no10 (n := k) okr
  have htk := tk_len (rs := rs) (k := k) (by omega)
  rw [e1]
  have hMM : ∀ q, rs[k + 1]? = some q → linesFrom (k + 1) (rs.drop (k + 1)) = lineB (k + 1) q ++ 10 :: linesFrom (k + 2) (rs.drop (k + 2)) := fun q hq => by
    have hk1 : k + 1 < rs.length := by
      rcases Nat.lt_or_ge (k + 1) rs.length with c | c
      · exact c
      · rw [List.getElem?_eq_none c] at hq; cases hq
    have eq : rs[k + 1] = q := by rw [List.getElem?_eq_getElem hk1] at hq; exact Option.some.inj hq
    rw [List.drop_eq_getElem_cons hk1, eq]
    simp [linesFrom, line]
  have hM0 : rs[k + 1]? = none → linesFrom (k + 1) (rs.drop (k + 1)) = [] := fun hq => by
    rw [List.drop_eq_nil_of_le (List.getElem?_eq_none_iff.mp hq)]
    rfl
  rcases Nat.lt_or_ge i (lineB k r).length with c | c
  · obtain ⟨a, cc, b, el, ea⟩ : ∃ a cc b, lineB k r = a ++ cc :: b ∧ a.length = i := ⟨(lineB k r).take i, (lineB k r)[i], (lineB k r).drop (i + 1), by simp, by rw [List.length_take]; omega⟩
    have hcc := hlow cc (by rw [el]; simp)
    have ha10 : 10 ∉ a := fun m => hno (by rw [el]; exact List.mem_append_left _ m)
    have hb10 : 10 ∉ b := fun m => hno (by rw [el]; exact List.mem_append_right _ (List.mem_cons_of_mem _ m))
    have hlb : a.length + (b.length + 1) ≤ 160 := by
      have := hm.2
      rw [el, List.length_append, List.length_cons] at this
      exact this
    have hMl := hm.1
    clear hMM hM0
    generalize linesFrom (k + 1) (rs.drop (k + 1)) = M at *
    have eT : linesFrom 0 rs = (linesFrom 0 (rs.take k) ++ a) ++ cc :: (b ++ 10 :: M) := by rw [e3, el]; simp
    have ex : x = (linesFrom 0 (rs.take k) ++ a).length := by rw [List.length_append, ea]; exact e2
    rw [eT] at hd ⊢
    have hg : ((linesFrom 0 (rs.take k) ++ a) ++ cc :: (b ++ 10 :: M)).getD x 0 = cc := by rw [ex, List.getD_eq_getElem?_getD, List.getElem?_append_right (Nat.le_refl _), Nat.sub_self]; rfl
    rw [hg] at hd
    have ht : ((linesFrom 0 (rs.take k) ++ a) ++ cc :: (b ++ 10 :: M)).take x = linesFrom 0 (rs.take k) ++ a := by rw [ex, List.take_left]
    have hdr : ((linesFrom 0 (rs.take k) ++ a) ++ cc :: (b ++ 10 :: M)).drop x = cc :: (b ++ 10 :: M) := by rw [ex, List.drop_left]
    have hdr1 : ((linesFrom 0 (rs.take k) ++ a) ++ cc :: (b ++ 10 :: M)).drop (x + 1) = b ++ 10 :: M := by rw [← List.drop_drop, hdr]; rfl
    refine ⟨fun _ => ⟨(a ++ d :: b) ++ 10 :: M, ?_, ?_, .inr ⟨_, _, rfl, ?_, ?_, .inl ?_⟩⟩, ⟨(a ++ b) ++ 10 :: M, ?_, ?_, .inr ⟨_, _, rfl, ?_, ?_, .inl ?_⟩⟩, ⟨(a ++ d :: (cc :: b)) ++ 10 :: M, ?_, ?_, .inr ⟨_, _, rfl, ?_, ?_, .inl ?_⟩⟩⟩
    · rw [ht, hdr1]; simp
    · simp only [List.length_append, List.length_cons]; omega
    · simp only [List.mem_append, List.mem_cons, not_or]
      exact ⟨ha10, by omega, hb10⟩
    · simp only [List.length_append, List.length_cons]; omega
    · rw [htk]
      exact bad_sub okr el.symm hd (by omega) (by omega)
    · rw [ht, hdr1]; simp
    · simp only [List.length_append, List.length_cons]; omega
    · simp only [List.mem_append, not_or]
      exact ⟨ha10, hb10⟩
    · simp only [List.length_append]; omega
    · rw [htk]
      exact bad_del okr el.symm (by omega) (by omega)
    · rw [ht, hdr]; simp
    · simp only [List.length_append, List.length_cons]; omega
    · simp only [List.mem_append, List.mem_cons, not_or]
      exact ⟨ha10, by omega, by omega, hb10⟩
    · simp only [List.length_append, List.length_cons]; omega
    · rw [htk]
      exact bad_ins okr el.symm (by omega) (by omega)
  · have ei : i = (lineB k r).length := by omega
    have hMl := hm.1
    have hll := hm.2
    have eT : linesFrom 0 rs = (linesFrom 0 (rs.take k) ++ lineB k r) ++ 10 :: linesFrom (k + 1) (rs.drop (k + 1)) := by rw [e3]; simp
    have ex : x = (linesFrom 0 (rs.take k) ++ lineB k r).length := by rw [List.length_append, ← ei]; exact e2
    rw [eT] at hd ⊢
    generalize hM : linesFrom (k + 1) (rs.drop (k + 1)) = M at *
    have hg : ((linesFrom 0 (rs.take k) ++ lineB k r) ++ 10 :: M).getD x 0 = 10 := by rw [ex, List.getD_eq_getElem?_getD, List.getElem?_append_right (Nat.le_refl _), Nat.sub_self]; rfl
    have ht : ((linesFrom 0 (rs.take k) ++ lineB k r) ++ 10 :: M).take x = linesFrom 0 (rs.take k) ++ lineB k r := by rw [ex, List.take_left]
    have hdr : ((linesFrom 0 (rs.take k) ++ lineB k r) ++ 10 :: M).drop x = 10 :: M := by rw [ex, List.drop_left]
    have hdr1 : ((linesFrom 0 (rs.take k) ++ lineB k r) ++ 10 :: M).drop (x + 1) = M := by rw [← List.drop_drop, hdr]; rfl
    refine ⟨fun n => absurd hg n, ?_, ⟨(lineB k r ++ d :: []) ++ 10 :: M, ?_, ?_, .inr ⟨_, _, rfl, ?_, ?_, .inl ?_⟩⟩⟩
    · rw [ht, hdr1]
      cases hq : rs[k + 1]? with
      | none =>
        have := hM0 hq
        subst this
        exact ⟨lineB k r, by simp, by omega, .inl hno⟩
      | some q =>
        have okq := ok q (List.mem_of_getElem? hq)
        have hk1 : k + 1 < rs.length := by
          rcases Nat.lt_or_ge (k + 1) rs.length with c | c
          · exact c
          · rw [List.getElem?_eq_none c] at hq; cases hq
        have hq2 := (more_len ok hz hq hk1)
        rw [hMM q hq]
        refine ⟨(lineB k r ++ lineB (k + 1) q) ++ 10 :: linesFrom (k + 2) (rs.drop (k + 2)), by simp, ?_, .inr ⟨_, _, rfl, ?_, ?_, .inl ?_⟩⟩
        · have h1 := hq2.1
          have h2 := hq2.2
          rw [show k + 1 + 1 = k + 2 from rfl] at h1
          simp only [List.length_append, List.length_cons]
          omega
        · simp only [List.mem_append, not_or]
          exact ⟨hno, line_no10 okq⟩
        · have h2 := hq2.2
          simp only [List.length_append]
          omega
        · rw [htk]
          exact bad_two okr okq
    · rw [ht, hdr]; simp
    · simp only [List.length_append, List.length_cons, List.length_nil]; omega
    · simp only [List.mem_append, List.mem_cons, List.not_mem_nil, not_or, or_false]
      exact ⟨hno, by omega⟩
    · simp only [List.length_append, List.length_cons, List.length_nil]; omega
    · rw [htk]
      exact bad_ins okr (by rw [List.append_nil]) (by omega) (by omega)
/-- lines of their own ahead, then a line with another number -/
theorem wrong_line {rs : List Rec} {X : List (List Nat)} {m q : Nat} {r : Rec} (hm : m ≤ rs.length) (hx : ∀ l ∈ X, l.length ≤ 160) (hX : X.length ≤ 100) (ht : X.take m = (lns rs).take m) (hq : X[m]? = some (line q r)) (ok : OkR r) (hn : q ≠ m) :
    ∃ tail, X.flatten = linesFrom 0 (rs.take m) ++ tail ∧ tail.length ≤ 40000 ∧ Tail (rs.take m) tail := by
  have hmX : m < X.length := by
    rcases Nat.lt_or_ge m X.length with c | c
    · exact c
    · rw [List.getElem?_eq_none c] at hq; cases hq
  have eX : X = X.take m ++ line q r :: X.drop (m + 1) := by
    rw [List.getElem?_eq_getElem hmX] at hq
    rw [← Option.some.inj hq]
    simp
  have hfl : ∀ Y : List (List Nat), (∀ l ∈ Y, l.length ≤ 160) → Y.flatten.length ≤ 160 * Y.length := by
    intro Y
    induction Y with
    | nil => intro _; simp
    | cons a Y ih =>
      intro h
      have := ih fun l hl => h l (List.mem_cons_of_mem _ hl)
      have := h a List.mem_cons_self
      simp only [List.flatten_cons, List.length_append, List.length_cons]
      omega
  have h1 := hfl (X.drop (m + 1)) fun l hl => hx l (List.mem_of_mem_drop hl)
  have h2 := hx (line q r) (by rw [eX]; simp)
  simp only [line, List.length_append, List.length_cons, List.length_nil] at h2
  have h3 : (X.drop (m + 1)).length ≤ 100 := by rw [List.length_drop]; omega
  refine ⟨lineB q r ++ 10 :: (X.drop (m + 1)).flatten, ?_, ?_, .inr ⟨_, _, rfl, line_no10 ok, by omega, .inl ?_⟩⟩
  · conv => lhs; rw [eX]
    rw [List.flatten_append, ht, ← lns_take, lns_flat, List.flatten_cons]
    simp [line]
  · simp only [List.length_append, List.length_cons]; omega
  · rw [tk_len hm]
    exact bad_num ok hn
theorem tail_nil {rs : List Rec} : Tail rs [] := .inl (by simp)
theorem lns_len {rs : List Rec} (ok : ∀ r ∈ rs, OkR r) (hz : rs.length ≤ 40) : ∀ l ∈ lns rs, l.length ≤ 160 := by
  intro l hl
  obtain ⟨j, hj, e⟩ := List.mem_iff_getElem.mp hl
  rw [lns_length] at hj
  have h1 := lns_at (List.getElem?_eq_getElem hj)
  rw [List.getElem?_eq_getElem (by rw [lns_length]; exact hj), e] at h1
  rw [Option.some.inj h1]
  exact line_len (by have : (40 : Nat) < 10 ^ 12 := by decide
                     omega) (ok _ (List.getElem_mem hj))
end K68

set_option maxHeartbeats 8000000
set_option pp.maxSteps 300
/-! W68p: the law. -/
namespace K68
open PySem PySem.Spec PyProof.Rows L2 TL Ak Kd Jn
local macro_rules | `(tactic| tm_at "rd1") => `(tactic| with_reducible first
  | refine r_seq ?_ | refine r_ifS ?_ | refine r_ret ?_ | refine r_asg ?_ | refine r_next ?_ | refine r_drop ?_ | refine r_par ?_ | refine r_brk ?_ | refine r_cont ?_
  | refine r_op ?_ | refine r_c ?_ | refine r_cb ?_ | refine r_cons ?_ | refine r_nil ?_ | refine r_un ?_ | refine r_tB ?_ | refine r_test ?_ | refine r_not ?_ | refine r_and ?_ | refine r_or ?_ | refine r_andV ?_ | refine r_orV ?_ | refine r_notV ?_ | refine r_if ?_ | refine r_chain ?_
  | refine r_tup ?_ | refine r_lst ?_ | refine r_lstN ?_ | refine r_sl ?_ | refine r_part ?_ | refine r_nopart ?_ | refine r_call ?_ | refine r_callK ?_ | refine r_bm ?_ | refine r_bm0 ?_ | refine r_m1 ?_ | refine r_m0 ?_ | refine r_isN ?_ | refine r_notN ?_
  | refine r_gcons ?_ | refine r_gnil ?_ | refine r_gsub ?_ | refine r_name ?_ | refine r_ilist ?_ | refine r_itup ?_ | refine r_istr ?_ | refine r_irng1 ?_ | refine r_ienum ?_ | refine r_mko ?_ | refine r_yes ?_ | refine r_lc ?_ | refine r_for ?_ | refine turn_i ?_
  | refine r_dput ?_ | refine r_dget ?_ | refine r_izipA ?_ | refine r_ienumT ?_ | refine r_back ?_ | refine r_dsetd ?_ | refine r_dgetN ?_ | refine r_dnotinN ?_ | refine r_isTr ?_ | refine r_lockAsg ?_ | refine r_bl ?_ | refine r_int ?_ | refine r_two ?_ | refine r_str ?_ | refine r_two1 ?_
  | refine b_t ?_ | refine b_f ?_ | refine b_nt ?_ | refine b_nf ?_ | refine q_u ?_ | refine q_i0 ?_ | refine q_ipI ?_ | refine b_add_int ?_ | refine b_eq_int ?_ | refine b_ne_int ?_ | refine b_eq_tx ?_ | refine b_ne_tx ?_ | refine b_in_sg ?_ | refine q_ni_sg ?_)
local macro_rules | `(tactic| tm_at "rd2") => `(tactic| first
  | tm_at "rd1" | refine r_var rfl ?_ | refine r_aug rfl ?_ 
  | refine And.intro (small_n (by simp)) ?_ | tm_at "rdl" | tm_at "rdk")
local macro_rules | `(tactic| tm_at "rdk") => `(tactic| with_reducible first | refine b_isStrV ?_ | refine b_isBlV ?_ | refine b_isIntV ?_ | refine b_isIntB ?_ | refine b_isTupS (by assumption) ?_ | refine b_isTup (by assumption) ?_ | refine b_isInt (by assumption) ?_ | refine b_isBl (by assumption) ?_ | refine b_isStr (by assumption) ?_ | refine b_isLst (by assumption) ?_)
local macro_rules | `(tactic| tm_at "rdl") => `(tactic| first | (with_reducible refine q_len_tx (by assumption) ?_) | (with_reducible refine q_len_tx (by omega) ?_) | (with_reducible refine q_lenB_tx (by assumption) ?_) | (with_reducible refine q_lenB_tx (by omega) ?_))
local macro_rules | `(tactic| tm_at "rd") => `(tactic| repeat tm_at "rd2")
local macro_rules | `(tactic| tm_at "rdw") => `(tactic| repeat (first | tm_at "rd2" | with_reducible refine bd_t rfl ?_ | with_reducible refine bd_f (by decide) ?_ | with_reducible refine bnd_f rfl ?_ | with_reducible refine bnd_t (by decide) ?_))

/-- what stands while the law goes on -/
structure Wl (K : PySem.W.Frag) (p LR LL LE : Addr) (rs : List Rec) (H : Hp) : Prop where
  pot : Pot H p
  rc : RecAt K H LR rs
  nR : LR ≠ p
  lin : H LL = some (.lst ((lns rs).map fun l => V.str (tx l)))
  nL : LL ≠ p
  en : H LE = some (.lst ((List.range rs.length).map fun j => V.int (endOf rs j : Nat)))
  nE : LE ≠ p
theorem Wl.sx {K : PySem.W.Frag} {p LR LL LE : Addr} {rs : List Rec} {H H' : Hp} (h : Wl K p LR LL LE rs H) (s : SX p H H') : Wl K p LR LL LE rs H' :=
  ⟨s.2, h.rc.sx s h.pot h.nR, h.nR, s.1 _ _ h.nL h.lin, h.nL, s.1 _ _ h.nE h.en, h.nE⟩
theorem Wl.same {K : PySem.W.Frag} {p LR LL LE : Addr} {rs : List Rec} {H H' : Hp} (h : Wl K p LR LL LE rs H) (s : Same H H') : Wl K p LR LL LE rs H' := h.sx (.of h.pot s)
structure Wr (rs : List Rec) : Prop where
  ok : ∀ r ∈ rs, OkR r
  sq : seqOk rs
  lo : 3 ≤ rs.length
  hi : rs.length ≤ 31
theorem Wr.len {rs : List Rec} (h : Wr rs) : (linesFrom 0 rs).length ≤ 6400 ∧ 0 < (linesFrom 0 rs).length := by
  have h1 := lines_len h.ok 0 (by have := h.hi; omega)
  have h2 := h.hi
  have h3 := h.lo
  refine ⟨by omega, ?_⟩
  cases rs with
  | nil => simp at h3
  | cons r rs =>
    simp only [linesFrom, line, List.length_append, List.length_cons]
    omega
theorem b_tailL {K : PySem.W.Frag} {H : Hp} {Q : VK} {a : Addr} {xs : List V} {i : Nat} (h : H a = some (.lst xs)) (q : ∀ b, H b = none → Q (.ref b) (upd H b (.lst (xs.drop i)))) : rSlB K (.ref a) (some (i : Int)) none H Q := .inl ⟨a, xs, rfl, SqL.of h, fun p hp => by rw [cut_from]; exact q p hp⟩
/-- texts, one behind another, by join -/
theorem b_join0 {K : PySem.W.Frag} {H : Hp} {Q : VK} {L : Addr} {X : List (List Nat)} (h : H L = some (.lst (X.map fun l => V.str (tx l)))) (hz : X.flatten.length ≤ 90000) (q : Q (.str (tx X.flatten)) H) : rJoinK K (.str (tx (cs ""))) [.ref L] H Q := by
  refine ⟨tx [], L, X.map tx, rfl, rfl, .inl (SqL.of (by rw [h, strs_tx])), ?_, ?_⟩
  · rw [sum_tx, show (tx []).length = 0 from rfl]
    have e3 : (X.map (fun p : List Nat => p.length)).sum = X.flatten.length := by rw [List.length_flatten]
    refine Nat.le_trans (Nat.le_of_eq (show _ = X.flatten.length from by rw [Nat.mul_zero, Nat.add_zero]; exact e3)) ?_
    omega
  · rw [join0]
    exact q
section
variable {P : Program} {w : World} {K : PySem.W.Frag} {mg : Str → Option Value} {base : Heap}
theorem law4 (T : Tx K mg) (D : Td K mg w) {cdv : Value} {A : Around} {outer : List Env} {s : Shared} {Hs : Hp} {E : XK} (hr : Room 20 (A.deeper (envOfC "law" (defScope s_law) s.heap.objs.size T.f_law cdv))) :
    ∃ t, PSs (cxOf CX0 P w K mg base nm_law "law" (defScope s_law) T.f_law cdv A outer s Hs E).nox ((defBody s_law).drop 9) t ∧
      ∀ {p LR LL LE : Addr} {rs : List Rec} {i j : Nat} {v0 : Option V} {o6 o7 o8 o9 o10 o11 o12 o13 o14 o17 o18 o19 o20 : Option V} {Q : VK} {H : Hp},
        Wr rs → Wl K p LR LL LE rs H → i < rs.length → (∀ H', Q (.bl true) H') →
        t { nx := fun _ H' => Q .non H', rt := Q } [v0, some (.ref p), some (.ref LR), some (.ref LL), some (.str (tx (linesFrom 0 rs))), some (.ref LE), o6, o7, o8, o9, o10, o11, o12, o13, o14, some (.int (i : Nat)), some (.int (j : Nat)), o17, o18, o19, o20] H := by
  have G__law_is_right := ok_right (P := P) (w := w) (base := base) T D
  have G_record_line := ok_record_line (P := P) (w := w) (base := base) T D
  have G_sum_of := ok_sum_of (P := P) (w := w) (base := base) T
  have G_read_journal := ok_read_journal (P := P) (w := w) (base := base) T D
  have b__law_is_right := T.d__law_is_right.F.binds (ps := ["records", "many", "text"]) fun _ _ _ _ _ _ us hl => match us, hl with | [_, _, _], _ => rfl
  have b_record_line := T.d_record_line.F.binds (ps := ["number", "record"]) fun _ _ _ _ _ _ us hl => match us, hl with | [_, _], _ => rfl
  have b_sum_of := T.d_sum_of.F.binds (ps := ["text"]) fun _ _ _ _ _ _ us hl => match us, hl with | [_], _ => rfl
  have b_read_journal := T.d_read_journal.F.binds (ps := ["text"]) fun _ _ _ _ _ _ us hl => match us, hl with | [_], _ => rfl
  have hu := hu_of hr
  have hu64 := hr.units
  refine ⟨_, (pss_cons (ps_if (PW.pt (pw_or (pt_not (pt_val (pe_call G__law_is_right (hr.mono (by first | decide | omega)) rfl T.d__law_is_right.g T.d__law_is_right.F.kp b__law_is_right .nil pass0 (pa_cons (pv 2) (pa_cons (pe_op (opAddB (K := K) rfl) (pv 15) pe_int) (pa_cons (pe_joinK (K := K) rfl (pe_lit "") (pe_op (opAddB (K := K) rfl) (pe_slice (slB (K := K) rfl) (pv 3) po_none (po_some (pe_op (opAddB (K := K) rfl) (pv 15) pe_int))) (pe_slice (slB (K := K) rfl) (pv 3) (po_some (pv 15)) po_none))) pa_nil)))))) (pw_or1 (pt_not (pt_val (pe_call G__law_is_right (hr.mono (by first | decide | omega)) rfl T.d__law_is_right.g T.d__law_is_right.F.kp b__law_is_right .nil pass0 (pa_cons (pv 2) (pa_cons (pv 15) (pa_cons (pe_joinK (K := K) rfl (pe_lit "") (pe_op (opAddB (K := K) rfl) (pe_slice (slB (K := K) rfl) (pv 3) po_none (po_some (pv 15))) (pe_slice (slB (K := K) rfl) (pv 3) (po_some (pe_op (opAddB (K := K) rfl) (pv 15) pe_int)) po_none))) pa_nil))))))))) (pss_one (ps_ret pe_bl)) pss_nil)
      (pss_cons (ps_set (i := 17) sc_law.nd rfl (Or.inl rfl) (pe_call G_record_line (hr.mono (by first | decide | omega)) rfl T.d_record_line.g T.d_record_line.F.kp b_record_line .nil pass0 (pa_cons (pe_callB (caLenB (K := K) rfl) (by rfl) T.n_len (by decide +kernel) (pa_cons (pv 2) pa_nil)) (pa_cons (pe_tup (pa_cons (pe_lit "begun") (pa_cons pe_int pa_nil))) pa_nil))))
      (pss_cons (ps_if (PW.pt (pw_or (pt_not (pt_val (pe_call G__law_is_right (hr.mono (by first | decide | omega)) rfl T.d__law_is_right.g T.d__law_is_right.F.kp b__law_is_right .nil pass0 (pa_cons (pv 2) (pa_cons (pe_callB (caLenB (K := K) rfl) (by rfl) T.n_len (by decide +kernel) (pa_cons (pv 2) pa_nil)) (pa_cons (pe_op (opAddB (K := K) rfl) (pv 4) (pv 17)) pa_nil)))))) (pw_or1 (pt_not (pt_val (pe_call G__law_is_right (hr.mono (by first | decide | omega)) rfl T.d__law_is_right.g T.d__law_is_right.F.kp b__law_is_right .nil pass0 (pa_cons (pv 2) (pa_cons (pe_callB (caLenB (K := K) rfl) (by rfl) T.n_len (by decide +kernel) (pa_cons (pv 2) pa_nil)) (pa_cons (pe_op (opAddB (K := K) rfl) (pe_op (opAddB (K := K) rfl) (pv 4) (pe_lit "\n")) (pv 17)) pa_nil))))))))) (pss_one (ps_ret pe_bl)) pss_nil)
      (pss_one (ps_ret (pe_and (pe_cmpR (opEqB (K := K) rfl hu64) (pe_call G_sum_of (hr.mono (by first | decide | omega)) rfl T.d_sum_of.g T.d_sum_of.F.kp b_sum_of .nil pass0 (pa_cons (pe_lit "") pa_nil)) pe_int (nomark _)) (pe_one (pe_cmpR (opEqB (K := K) rfl hu64) (pe_call G_read_journal (hr.mono (by first | decide | omega)) rfl T.d_read_journal.g T.d_read_journal.F.kp b_read_journal .nil pass0 (pa_cons (pe_lit "\n") pa_nil)) (pe_tup (pa_cons (pe_lst pa_nil) (pa_cons pe_int pa_nil))) (nomark _))))))))), ?_⟩
  intro p LR LL LE rs i j v0 o6 o7 o8 o9 o10 o11 o12 o13 o14 o17 o18 o19 o20 Q H wr w0 hi k
  have hlen := wr.len
  have hlo := wr.lo
  have hhi := wr.hi
  have hll := lns_len wr.ok (by omega)
  have e12 : (10 : Nat) ^ 12 = 1000000000000 := by decide
  have hri : rs[i]? = some rs[i] := List.getElem?_eq_getElem hi
  tm_at "rd"
  rw [show ((i : Nat) : Int) + 1 = ((i + 1 : Nat) : Int) by omega]
  refine b_frontL w0.lin fun L1 hL1 => ?_
  have w1 := w0.same (same_new (o := .lst (((lns rs).map fun l => V.str (tx l)).take (i + 1))) hL1)
  have h1 := upd_same (H := H) (a := L1) (o := .lst (((lns rs).map fun l => V.str (tx l)).take (i + 1)))
  generalize upd H L1 (.lst (((lns rs).map fun l => V.str (tx l)).take (i + 1))) = H1 at w1 h1
  tm_at "rd"
  refine b_tailL w1.lin fun L2 hL2 => ?_
  have s2 := same_new (o := .lst (((lns rs).map fun l => V.str (tx l)).drop i)) hL2
  have w2 := w1.same s2
  have h2 := upd_same (H := H1) (a := L2) (o := .lst (((lns rs).map fun l => V.str (tx l)).drop i))
  have h12 := s2 _ _ h1
  generalize upd H1 L2 (.lst (((lns rs).map fun l => V.str (tx l)).drop i)) = H2 at w2 h2 h12
  refine b_add_lst h12 h2 (by simp only [List.length_take, List.length_drop, List.length_map, lns_length]; omega) fun L3 hL3 => ?_
  have w3 := w2.same (same_new (o := .lst (((lns rs).map fun l => V.str (tx l)).take (i + 1) ++ ((lns rs).map fun l => V.str (tx l)).drop i)) hL3)
  have h3 := upd_same (H := H2) (a := L3) (o := .lst (((lns rs).map fun l => V.str (tx l)).take (i + 1) ++ ((lns rs).map fun l => V.str (tx l)).drop i))
  generalize upd H2 L3 (.lst (((lns rs).map fun l => V.str (tx l)).take (i + 1) ++ ((lns rs).map fun l => V.str (tx l)).drop i)) = H3 at w3 h3
  rw [← List.map_take, ← List.map_drop, ← List.map_append] at h3
  clear w0 w1 w2 h1 h2 h12 s2
  obtain ⟨tail, et, hz1, ht1⟩ := wrong_line (rs := rs) (X := (lns rs).take (i + 1) ++ (lns rs).drop i) (m := i + 1) (q := i) (r := rs[i]) (by omega) (fun l hl => (List.mem_append.mp hl).elim (fun h => hll l (List.mem_of_mem_take h)) fun h => hll l (List.mem_of_mem_drop h)) (by simp only [List.length_append, List.length_take, List.length_drop, lns_length]; omega)
    (List.take_left' (by rw [List.length_take, lns_length]; omega)) (by
      rw [List.getElem?_append_right (by rw [List.length_take, lns_length]; omega), List.length_take, lns_length, Nat.min_eq_left (by omega), Nat.sub_self, List.getElem?_drop, Nat.add_zero]
      exact lns_at hri) (wr.ok _ (List.getElem_mem hi)) (by omega)
  have hl1 := lines_len (ok_take wr.ok (i + 1)) 0 (by rw [List.length_take]; omega)
  rw [List.length_take] at hl1
  refine b_join0 h3 (by rw [et, List.length_append]; omega) ?_
  rw [et]
  tm_at "rd"
  refine ⟨LR, rs, i + 1, tail, rfl, w3.rc, wr.ok, wr.sq, by omega, hz1, ht1, fun H4 s4 => ?_⟩
  have w4 := w3.same s4
  clear w3 h3 s4 et hz1 ht1 hl1
  tm_at "rd"
  refine b_frontL w4.lin fun L1 hL1 => ?_
  have w5 := w4.same (same_new (o := .lst (((lns rs).map fun l => V.str (tx l)).take i)) hL1)
  have h5 := upd_same (H := H4) (a := L1) (o := .lst (((lns rs).map fun l => V.str (tx l)).take i))
  generalize upd H4 L1 (.lst (((lns rs).map fun l => V.str (tx l)).take i)) = H5 at w5 h5
  tm_at "rd"
  rw [show ((i : Nat) : Int) + 1 = ((i + 1 : Nat) : Int) by omega]
  refine b_tailL w5.lin fun L2 hL2 => ?_
  have s2 := same_new (o := .lst (((lns rs).map fun l => V.str (tx l)).drop (i + 1))) hL2
  have w6 := w5.same s2
  have h6 := upd_same (H := H5) (a := L2) (o := .lst (((lns rs).map fun l => V.str (tx l)).drop (i + 1)))
  have h56 := s2 _ _ h5
  generalize upd H5 L2 (.lst (((lns rs).map fun l => V.str (tx l)).drop (i + 1))) = H6 at w6 h6 h56
  refine b_add_lst h56 h6 (by simp only [List.length_take, List.length_drop, List.length_map, lns_length]; omega) fun L3 hL3 => ?_
  have w7 := w6.same (same_new (o := .lst (((lns rs).map fun l => V.str (tx l)).take i ++ ((lns rs).map fun l => V.str (tx l)).drop (i + 1))) hL3)
  have h7 := upd_same (H := H6) (a := L3) (o := .lst (((lns rs).map fun l => V.str (tx l)).take i ++ ((lns rs).map fun l => V.str (tx l)).drop (i + 1)))
  generalize upd H6 L3 (.lst (((lns rs).map fun l => V.str (tx l)).take i ++ ((lns rs).map fun l => V.str (tx l)).drop (i + 1))) = H7 at w7 h7
  rw [← List.map_take, ← List.map_drop, ← List.map_append] at h7
  clear w4 w5 w6 h5 h6 h56 s2
  obtain ⟨tail, et, hz1, ht1⟩ : ∃ tail, ((lns rs).take i ++ (lns rs).drop (i + 1)).flatten = linesFrom 0 (rs.take i) ++ tail ∧ tail.length ≤ 40000 ∧ Tail (rs.take i) tail := by
    rcases Nat.lt_or_ge (i + 1) rs.length with c | c
    · exact wrong_line (rs := rs) (m := i) (q := i + 1) (r := rs[i + 1]) (by omega) (fun l hl => (List.mem_append.mp hl).elim (fun h => hll l (List.mem_of_mem_take h)) fun h => hll l (List.mem_of_mem_drop h)) (by simp only [List.length_append, List.length_take, List.length_drop, lns_length]; omega)
        (List.take_left' (by rw [List.length_take, lns_length]; omega)) (by
          rw [List.getElem?_append_right (by rw [List.length_take, lns_length]; omega), List.length_take, lns_length, Nat.min_eq_left (by omega), Nat.sub_self, List.getElem?_drop]
          exact lns_at (List.getElem?_eq_getElem c)) (wr.ok _ (List.getElem_mem c)) (by omega)
    · refine ⟨[], ?_, by simp, tail_nil⟩
      rw [List.drop_of_length_le (by rw [lns_length]; omega), List.append_nil, List.append_nil, ← lns_take, lns_flat]
  have hl1 := lines_len (ok_take wr.ok i) 0 (by rw [List.length_take]; omega)
  rw [List.length_take] at hl1
  refine b_join0 h7 (by rw [et, List.length_append]; omega) ?_
  rw [et]
  tm_at "rd"
  refine ⟨LR, rs, i, tail, rfl, w7.rc, wr.ok, wr.sq, by omega, hz1, ht1, fun H8 s8 => ?_⟩
  have w8 := w7.same s8
  clear w7 h7 s8 et hz1 ht1 hl1
  tm_at "rd"
  obtain ⟨rv, hr1, hr2⟩ := id w8.rc
  have hrl := hr2.length
  rw [List.length_map] at hrl
  refine q_lenB_lst (SqL.of hr1) ?_
  tm_at "rd"
  intro q9 hq9
  have s9 := same_new (o := .tup [.str (tx (cs "begun")), .int 5]) hq9
  have w9 := w8.same s9
  have hv9 : Rv K (upd H8 q9 (.tup [.str (tx (cs "begun")), .int 5])) (.ref q9) (.begun 5) := .tup (SqT.of upd_same) (.cons (.str _) (.cons (.int _) .nil))
  generalize upd H8 q9 (.tup [.str (tx (cs "begun")), .int 5]) = H9 at w9 hv9
  clear w8 s9 hr1 hr2
  rw [hrl]
  tm_at "rd"
  have ok5 : OkR (.begun 5) := by show 5 < 10 ^ 12; omega
  refine ⟨.ref q9, .begun 5, rs.length, rfl, by omega, hv9, ok5, fun H10 s10 => ?_⟩
  have w10 := w9.same s10
  clear w9 hv9 s10
  have hl5 := line_len (n := rs.length) (by omega) ok5
  have hl6 : (lineB rs.length (.begun 5)).length + 1 = (line rs.length (.begun 5)).length := by simp [line]
  tm_at "rd"
  have hrt : rs.take rs.length = rs := List.take_length
  obtain ⟨rv, hr1, hr2⟩ := id w10.rc
  have hrl := hr2.length
  rw [List.length_map] at hrl
  refine q_lenB_lst (SqL.of hr1) ?_
  rw [hrl]
  clear hr1 hr2 hrl rv
  tm_at "rd"
  refine b_add_tx (by omega) ?_
  have hfol : fol rs (.begun 5) = false := by
    have n0 : rs ≠ [] := fun e => by rw [e] at hlo; simp at hlo
    unfold fol
    rw [if_neg n0, if_pos (.inl rfl)]
  refine ⟨LR, rs, rs.length, line rs.length (.begun 5), by rw [hrt]; rfl, w10.rc, wr.ok, wr.sq, by omega, by omega, .inr ⟨lineB rs.length (.begun 5), [], by rfl, line_no10 ok5, by omega, .inr ⟨.begun 5, ok5, by rw [hrt], by rw [hrt]; exact hfol⟩⟩, fun H11 s11 => ?_⟩
  have w11 := w10.same s11
  clear w10 s11
  tm_at "rd"
  obtain ⟨rv, hr1, hr2⟩ := id w11.rc
  have hrl := hr2.length
  rw [List.length_map] at hrl
  refine q_lenB_lst (SqL.of hr1) ?_
  rw [hrl]
  clear hr1 hr2 hrl rv
  tm_at "rd"
  have hn1 : (cs "\n").length = 1 := rfl
  refine b_add_tx (by omega) ?_
  tm_at "rd"
  refine b_add_tx (by rw [List.length_append]; omega) ?_
  refine ⟨LR, rs, rs.length, 10 :: line rs.length (.begun 5), by rw [hrt, show cs "\n" = [10] from rfl, List.append_assoc]; rfl, w11.rc, wr.ok, wr.sq, by omega, by rw [List.length_cons]; omega, .inr ⟨[], line rs.length (.begun 5), rfl, by simp, by simp, .inl bad_nil⟩, fun H12 s12 => ?_⟩
  clear w11 s12
  tm_at "rd"
  refine ⟨[], rfl, by simp, fun H13 s13 => ?_⟩
  tm_at "rd"
  rw [show Jn.sum [] = 1 from rfl]
  tm_at "rdw"
  refine ⟨[], [10], rfl, by simp, fun jj r h => by simp at h, by simp, by simp, .inr ⟨[], [], rfl, by simp, by simp, .inl bad_nil⟩, fun H14 q2 L9 rv s14 hL9 hq2 hl9 hA9 => ?_⟩
  have hd1 : Dp K H14 (.ref q2) (.tuple [.list [], .int 0]) := .tup (SqT.of hq2) (.cons (.lst (SqL.of hl9) hA9) (.cons (.int _) .nil))
  tm_at "rd"
  intro L8 hL8
  have s15 := same_new (o := .lst []) hL8
  tm_at "rd"
  intro q3 hq3
  have s16 := same_new (o := .tup [.ref L8, .int 0]) hq3
  refine .inl (q_eq_dat ((hd1.same s15).same s16) (.tup (ds := [.list [], .int 0]) (SqT.of upd_same) (.cons (.lst (SqL.of (s16 _ _ upd_same)) .nil) (.cons (.int _) .nil))) (by decide) (by decide) ?_)
  rw [show PyData.eqv (.tuple [.list [], .int 0]) (.tuple [.list [], .int 0]) = true by decide]
  exact k _
end
end K68

set_option maxHeartbeats 8000000
set_option pp.maxSteps 300
/-! W68q: the law. -/
namespace K68
open PySem PySem.Spec PyProof.Rows L2 TL Ak Kd Jn
local macro_rules | `(tactic| tm_at "rd1") => `(tactic| with_reducible first
  | refine r_seq ?_ | refine r_ifS ?_ | refine r_ret ?_ | refine r_asg ?_ | refine r_next ?_ | refine r_drop ?_ | refine r_par ?_ | refine r_brk ?_ | refine r_cont ?_
  | refine r_op ?_ | refine r_c ?_ | refine r_cb ?_ | refine r_cons ?_ | refine r_nil ?_ | refine r_un ?_ | refine r_tB ?_ | refine r_test ?_ | refine r_not ?_ | refine r_and ?_ | refine r_or ?_ | refine r_andV ?_ | refine r_orV ?_ | refine r_notV ?_ | refine r_if ?_ | refine r_chain ?_
  | refine r_tup ?_ | refine r_lst ?_ | refine r_lstN ?_ | refine r_sl ?_ | refine r_part ?_ | refine r_nopart ?_ | refine r_call ?_ | refine r_callK ?_ | refine r_bm ?_ | refine r_bm0 ?_ | refine r_m1 ?_ | refine r_m0 ?_ | refine r_isN ?_ | refine r_notN ?_
  | refine r_gcons ?_ | refine r_gnil ?_ | refine r_gsub ?_ | refine r_name ?_ | refine r_ilist ?_ | refine r_itup ?_ | refine r_istr ?_ | refine r_irng1 ?_ | refine r_ienum ?_ | refine r_mko ?_ | refine r_yes ?_ | refine r_lc ?_ | refine r_for ?_ | refine turn_i ?_
  | refine r_dput ?_ | refine r_dget ?_ | refine r_izipA ?_ | refine r_ienumT ?_ | refine r_back ?_ | refine r_dsetd ?_ | refine r_dgetN ?_ | refine r_dnotinN ?_ | refine r_isTr ?_ | refine r_lockAsg ?_ | refine r_bl ?_ | refine r_int ?_ | refine r_two ?_ | refine r_str ?_ | refine r_two1 ?_
  | refine b_t ?_ | refine b_f ?_ | refine b_nt ?_ | refine b_nf ?_ | refine q_u ?_ | refine q_i0 ?_ | refine q_ipI ?_ | refine b_add_int ?_ | refine b_eq_int ?_ | refine b_ne_int ?_ | refine b_eq_tx ?_ | refine b_ne_tx ?_ | refine b_in_sg ?_ | refine q_ni_sg ?_)
local macro_rules | `(tactic| tm_at "rd2") => `(tactic| first
  | tm_at "rd1" | refine r_var rfl ?_ | refine r_aug rfl ?_ 
  | refine And.intro (small_n (by simp)) ?_ | tm_at "rdl" | tm_at "rdk")
local macro_rules | `(tactic| tm_at "rdk") => `(tactic| with_reducible first | refine b_isStrV ?_ | refine b_isBlV ?_ | refine b_isIntV ?_ | refine b_isIntB ?_ | refine b_isTupS (by assumption) ?_ | refine b_isTup (by assumption) ?_ | refine b_isInt (by assumption) ?_ | refine b_isBl (by assumption) ?_ | refine b_isStr (by assumption) ?_ | refine b_isLst (by assumption) ?_)
local macro_rules | `(tactic| tm_at "rdl") => `(tactic| first | (with_reducible refine q_len_tx (by assumption) ?_) | (with_reducible refine q_len_tx (by omega) ?_) | (with_reducible refine q_lenB_tx (by assumption) ?_) | (with_reducible refine q_lenB_tx (by omega) ?_))
local macro_rules | `(tactic| tm_at "rd") => `(tactic| repeat tm_at "rd2")
local macro_rules | `(tactic| tm_at "rdw") => `(tactic| repeat (first | tm_at "rd2" | with_reducible refine bd_t rfl ?_ | with_reducible refine bd_f (by decide) ?_ | with_reducible refine bnd_f rfl ?_ | with_reducible refine bnd_t (by decide) ?_))

/-- two places exchanged -/
def sw (i j x : Nat) : Nat := if x = i then j else if x = j then i else x
theorem sw_lines {rs : List Rec} {i j m : Nat} (ok : ∀ r ∈ rs, OkR r) (hz : rs.length ≤ 40) (hi : i < rs.length) (hj : j < rs.length) (hmi : (m = i ∧ i < j) ∨ (m = j ∧ j < i)) :
    ∃ tail, ((List.range rs.length).map fun x => (lns rs).getD (sw i j x) []).flatten = linesFrom 0 (rs.take m) ++ tail ∧ tail.length ≤ 40000 ∧ Tail (rs.take m) tail := by
  have hm : m < rs.length := by omega
  have hsw : ∀ x, x < rs.length → sw i j x < rs.length := fun x hx => by unfold sw; split <;> (try split) <;> omega
  have hll := lns_len ok hz
  have hq : sw i j m < rs.length := hsw m hm
  have hne : sw i j m ≠ m := by unfold sw; split <;> (try split) <;> omega
  refine wrong_line (q := sw i j m) (r := rs[sw i j m]) (by omega) (fun l hl => ?_) (by rw [List.length_map, List.length_range]; omega) ?_ ?_ (ok _ (List.getElem_mem hq)) hne
  · obtain ⟨x, hx, rfl⟩ := List.mem_map.mp hl
    have hx2 := hsw x (List.mem_range.mp hx)
    rw [List.getD_eq_getElem?_getD, List.getElem?_eq_getElem (by rw [lns_length]; exact hx2)]
    exact hll _ (List.getElem_mem _)
  · apply List.ext_getElem?
    intro x
    rcases Nat.lt_or_ge x m with c | c
    · rw [List.getElem?_take_of_lt c, List.getElem?_take_of_lt c, List.getElem?_map, List.getElem?_range (by omega), Option.map_some]
      have e : sw i j x = x := by unfold sw; rw [if_neg (by omega), if_neg (by omega)]
      rw [e, List.getD_eq_getElem?_getD, List.getElem?_eq_getElem (by rw [lns_length]; omega)]
      rfl
    · rw [List.getElem?_eq_none (by rw [List.length_take]; omega), List.getElem?_eq_none (by rw [List.length_take]; omega)]
  · rw [List.getElem?_map, List.getElem?_range hm, Option.map_some, List.getD_eq_getElem?_getD, lns_at (List.getElem?_eq_getElem hq)]
    rfl
section
variable {P : Program} {w : World} {K : PySem.W.Frag} {mg : Str → Option Value} {base : Heap}
theorem law3 (T : Tx K mg) (D : Td K mg w) {cdv : Value} {A : Around} {outer : List Env} {s : Shared} {Hs : Hp} {E : XK} (hr : Room 20 (A.deeper (envOfC "law" (defScope s_law) s.heap.objs.size T.f_law cdv))) :
    ∃ t, PSs (cxOf CX0 P w K mg base nm_law "law" (defScope s_law) T.f_law cdv A outer s Hs E).nox ((defBody s_law).drop 7) t ∧
      ∀ {p LR LL LE : Addr} {rs : List Rec} {v0 : Option V} {o6 o7 o8 o9 o10 o11 o12 o13 o14 o15 o16 o17 o18 o19 o20 : Option V} {Q : VK} {H : Hp},
        Wr rs → Wl K p LR LL LE rs H → (∀ H', Q (.bl true) H') →
        t { nx := fun _ H' => Q .non H', rt := Q } [v0, some (.ref p), some (.ref LR), some (.ref LL), some (.str (tx (linesFrom 0 rs))), some (.ref LE), o6, o7, o8, o9, o10, o11, o12, o13, o14, o15, o16, o17, o18, o19, o20] H := by
  have G__law_draw := ok_draw (P := P) (w := w) (base := base) T
  have G__law_is_right := ok_right (P := P) (w := w) (base := base) T D
  have b__law_draw := T.d__law_draw.F.binds (ps := ["pot", "size"]) fun _ _ _ _ _ _ us hl => match us, hl with | [_, _], _ => rfl
  have b__law_is_right := T.d__law_is_right.F.binds (ps := ["records", "many", "text"]) fun _ _ _ _ _ _ us hl => match us, hl with | [_, _, _], _ => rfl
  have hu := hu_of hr
  have hu64 := hr.units
  obtain ⟨t4, h4, q4⟩ := law4 (P := P) (w := w) (base := base) (outer := outer) (Hs := Hs) (E := E) T D hr
  refine ⟨_, (pss_cons (ps_asg (pe_tup (pa_cons (pe_call G__law_draw (hr.mono (by first | decide | omega)) rfl T.d__law_draw.g T.d__law_draw.F.kp b__law_draw .nil pass0 (pa_cons (pv 1) (pa_cons (pe_callB (caLenB (K := K) rfl) (by rfl) T.n_len (by decide +kernel) (pa_cons (pv 3) pa_nil)) pa_nil))) (pa_cons (pe_call G__law_draw (hr.mono (by first | decide | omega)) rfl T.d__law_draw.g T.d__law_draw.F.kp b__law_draw .nil pass0 (pa_cons (pv 1) (pa_cons (pe_callB (caLenB (K := K) rfl) (by rfl) T.n_len (by decide +kernel) (pa_cons (pv 3) pa_nil)) pa_nil))) pa_nil))) (pg_tup rfl (pgs_cons (pg_name (i := 15) sc_law.nd rfl (Or.inr rfl)) (pgs_cons (pg_name (i := 16) sc_law.nd rfl (Or.inr rfl)) pgs_nil))))
      (pss_cons (ps_if (PW.pt (pw_and (pt_cmpR (opNeB (K := K) rfl hu64) (pv 15) (pv 16) (nomark _)) (pw_and1 (pt_not (pt_val (pe_call G__law_is_right (hr.mono (by first | decide | omega)) rfl T.d__law_is_right.g T.d__law_is_right.F.kp b__law_is_right .nil pass0 (pa_cons (pv 2) (pa_cons (pe_callB (call_min2 rfl) (by rfl) T.n_min (by decide +kernel) (pa_cons (pv 15) (pa_cons (pv 16) pa_nil))) (pa_cons (pe_joinK (K := K) rfl (pe_lit "") (pe_lc (own := [("number", 18), ("line", 7)]) (g := (gTup K 2 (gCons (gName 18) (gCons (gName 7) gNil)))) rfl sc_law.nd (pi_enum (by rfl) T.n_enumerate (pa_cons (pv 3) pa_nil)) (blkOk_by (own := [("number", 18), ("line", 7)]) (N := nm_law) (sc := defScope s_law) (by decide +kernel)) (fun _ _ _ _ _ => pg_tup rfl (pgs_cons (pg_name (i := 18) sc_law.nd rfl (Or.inl rfl)) (pgs_cons (pg_name (i := 7) sc_law.nd rfl (Or.inl rfl)) pgs_nil))) (fun _ _ _ _ _ => pts_nil) (fun _ _ _ _ _ => (pe_ifExp (pt_cmpR (opEqB (K := K) rfl hu64) (pv 18) (pv 15) (nomark _)) (pe_ix (ixAny (K := K) rfl) (pv 3) (pv 16) (fun _ _ => rfl)) (pe_ifExp (pt_cmpR (opEqB (K := K) rfl hu64) (pv 18) (pv 16) (nomark _)) (pe_ix (ixAny (K := K) rfl) (pv 3) (pv 15) (fun _ _ => rfl)) (pv 7)))))) pa_nil))))))))) (pss_one (ps_ret pe_bl)) pss_nil)
      h4)), ?_⟩
  intro p LR LL LE rs v0 o6 o7 o8 o9 o10 o11 o12 o13 o14 o15 o16 o17 o18 o19 o20 Q H wr w0 k
  have hlen := wr.len
  have hlo := wr.lo
  have hhi := wr.hi
  have hll := lns_len wr.ok (by omega)
  tm_at "rd"
  refine q_lenB_lst (SqL.of w0.lin) ?_
  rw [List.length_map, lns_length]
  tm_at "rd"
  refine ⟨p, (rs.length : Nat), rfl, w0.pot, by omega, by omega, fun H1 a s1 a1 a2 => ?_⟩
  obtain ⟨i, rfl⟩ := Int.eq_ofNat_of_zero_le a1
  have hi : i < rs.length := by omega
  have w1 := w0.sx s1
  clear w0 s1 a1 a2
  tm_at "rd"
  refine q_lenB_lst (SqL.of w1.lin) ?_
  rw [List.length_map, lns_length]
  tm_at "rd"
  refine ⟨p, (rs.length : Nat), rfl, w1.pot, by omega, by omega, fun H2 b s2 b1 b2 => ?_⟩
  obtain ⟨j, rfl⟩ := Int.eq_ofNat_of_zero_le b1
  have hj : j < rs.length := by omega
  have w2 := w1.sx s2
  clear w1 s2 b1 b2
  tm_at "rd"
  intro q1 hq1
  have w3 := w2.same (same_new (o := .tup [.int (i : Nat), .int (j : Nat)]) hq1)
  refine r_gtup (SqT.of upd_same) rfl ?_
  change Wl K p LR LL LE rs (upd H2 q1 (.tup [.int (Int.ofNat i), .int (Int.ofNat j)])) at w3
  generalize upd H2 q1 (.tup [.int (Int.ofNat i), .int (Int.ofNat j)]) = H3 at w3
  clear w2 hq1
  tm_at "rd"
  refine bnd (fun c1 => ?_) (fun c1 => ?_)
  · tm_at "rd"
    have c2 : i ≠ j := fun e => c1 (by rw [e])
    obtain ⟨m, hm, hmi⟩ : ∃ m : Nat, (if (j : Int) < (i : Int) then (j : Int) else (i : Int)) = (m : Nat) ∧ ((m = i ∧ i < j) ∨ (m = j ∧ j < i)) := by
      rcases Nat.lt_or_ge j i with c | c
      · exact ⟨j, by rw [if_pos (by omega)], .inr ⟨rfl, c⟩⟩
      · exact ⟨i, by rw [if_neg (by omega)], .inl ⟨rfl, by omega⟩⟩
    have hm2 : m < rs.length := by omega
    have hri : rs[i]? = some rs[i] := List.getElem?_eq_getElem hi
    have hrj : rs[j]? = some rs[j] := List.getElem?_eq_getElem hj
    refine ⟨_, _, rfl, ?_⟩
    dsimp only
    rw [hm]
    tm_at "rd"
    refine ⟨LL, _, rfl, SqL.of w3.lin, fun D0 hD => ?_⟩
    have hat : ∀ {x : Nat}, x < rs.length → atI ((lns rs).map fun l => V.str (tx l)) (x : Int) = some (.str (tx ((lns rs).getD x []))) := fun {x} hx => atI_nat (by
      rw [List.getElem?_map, List.getD_eq_getElem?_getD, List.getElem?_eq_getElem (by rw [lns_length]; exact hx)]
      rfl)
    refine lc_gen (walk_enum (K := K) (a := LL) (xs := (lns rs).map fun l => V.str (tx l))) (fun x => .str (tx ((lns rs).getD (sw i j x) []))) (Nat.lt_of_le_of_lt (by rw [List.length_map, lns_length]; omega : ((lns rs).map fun l => V.str (tx l)).length ≤ 500) (by decide)) (fun H4 s4 => SqL.of (s4 _ _ w3.lin)) (fun x v H4 H5 _ s4 y => ?_) (fun x v H4 H5 hx s4 y Q3 R3 q => ?_) hD (fun H4 s4 h4 => ?_)
    · obtain ⟨T', x', y', rfl, hT, rfl, _, _⟩ := y
      exact same_new hT
    · obtain ⟨T', x', y', rfl, hT, rfl, hx', hy⟩ := y
      obtain rfl : x' = .int (x : Nat) := (Option.some.inj hx').symm
      rw [List.length_map, lns_length] at hx
      have ey : y' = .str (tx ((lns rs).getD x [])) := by
        dsimp only at hy
        rw [List.getElem?_map, List.getElem?_eq_getElem (by rw [lns_length]; exact hx)] at hy
        rw [List.getD_eq_getElem?_getD, List.getElem?_eq_getElem (by rw [lns_length]; exact hx)]
        exact (Option.some.inj hy).symm
      subst ey
      have w5 := (w3.same s4).same (same_new (o := .tup [.int (x : Nat), .str (tx ((lns rs).getD x []))]) hT)
      refine r_gtup (SqT.of upd_same) rfl ?_
      tm_at "rd"
      refine ⟨rfl, ?_⟩
      tm_at "rd"
      refine bd (fun d1 => ?_) (fun d1 => ?_)
      · tm_at "rd"
        refine q_ix_lst (SqL.of w5.lin) (hat hj) ?_
        have e : sw i j x = j := by unfold sw; rw [if_pos (by omega)]
        rw [e] at q
        exact q _ (Same.refl _)
      · tm_at "rd"
        refine bd (fun d2 => ?_) (fun d2 => ?_)
        · tm_at "rd"
          refine q_ix_lst (SqL.of w5.lin) (hat hi) ?_
          have e : sw i j x = i := by unfold sw; rw [if_neg (by omega), if_pos (by omega)]
          rw [e] at q
          exact q _ (Same.refl _)
        · tm_at "rd"
          have e : sw i j x = x := by unfold sw; rw [if_neg (by omega), if_neg (by omega)]
          rw [e] at q
          exact q _ (Same.refl _)
    rw [List.length_map, lns_length] at h4
    obtain ⟨tail, et, hz1, ht1⟩ := sw_lines wr.ok (by omega) hi hj hmi
    have w4 := w3.same s4
    have hl1 := lines_len (ok_take wr.ok m) 0 (by rw [List.length_take]; omega)
    rw [List.length_take] at hl1
    tm_at "rd"
    refine b_join0 (X := (List.range rs.length).map fun x => (lns rs).getD (sw i j x) []) (by rw [h4, List.map_map]; rfl) (by rw [et, List.length_append]; omega) ?_
    rw [et]
    tm_at "rd"
    refine ⟨LR, rs, m, tail, rfl, w4.rc, wr.ok, wr.sq, by omega, hz1, ht1, fun H5 s5 => ?_⟩
    tm_at "rd"
    exact q4 wr (w4.same s5) hi k
  · exact q4 wr w3 hi k
end
end K68

set_option maxHeartbeats 8000000
set_option pp.maxSteps 300
/-! W68r: the law's loop. -/
namespace K68
open PySem PySem.Spec PyProof.Rows L2 TL Ak Kd Jn
local macro_rules | `(tactic| tm_at "rd1") => `(tactic| with_reducible first
  | refine r_seq ?_ | refine r_ifS ?_ | refine r_ret ?_ | refine r_asg ?_ | refine r_next ?_ | refine r_drop ?_ | refine r_par ?_ | refine r_brk ?_ | refine r_cont ?_
  | refine r_op ?_ | refine r_c ?_ | refine r_cb ?_ | refine r_cons ?_ | refine r_nil ?_ | refine r_un ?_ | refine r_tB ?_ | refine r_test ?_ | refine r_not ?_ | refine r_and ?_ | refine r_or ?_ | refine r_andV ?_ | refine r_orV ?_ | refine r_notV ?_ | refine r_if ?_ | refine r_chain ?_
  | refine r_tup ?_ | refine r_lst ?_ | refine r_lstN ?_ | refine r_sl ?_ | refine r_part ?_ | refine r_nopart ?_ | refine r_call ?_ | refine r_callK ?_ | refine r_bm ?_ | refine r_bm0 ?_ | refine r_m1 ?_ | refine r_m0 ?_ | refine r_isN ?_ | refine r_notN ?_
  | refine r_gcons ?_ | refine r_gnil ?_ | refine r_gsub ?_ | refine r_name ?_ | refine r_ilist ?_ | refine r_itup ?_ | refine r_istr ?_ | refine r_irng1 ?_ | refine r_ienum ?_ | refine r_mko ?_ | refine r_yes ?_ | refine r_lc ?_ | refine r_for ?_ | refine turn_i ?_
  | refine r_dput ?_ | refine r_dget ?_ | refine r_izipA ?_ | refine r_ienumT ?_ | refine r_back ?_ | refine r_dsetd ?_ | refine r_dgetN ?_ | refine r_dnotinN ?_ | refine r_isTr ?_ | refine r_lockAsg ?_ | refine r_bl ?_ | refine r_int ?_ | refine r_two ?_ | refine r_str ?_ | refine r_two1 ?_
  | refine b_t ?_ | refine b_f ?_ | refine b_nt ?_ | refine b_nf ?_ | refine q_u ?_ | refine q_i0 ?_ | refine q_ipI ?_ | refine b_add_int ?_ | refine b_eq_int ?_ | refine b_ne_int ?_ | refine b_eq_tx ?_ | refine b_ne_tx ?_ | refine b_in_sg ?_ | refine q_ni_sg ?_)
local macro_rules | `(tactic| tm_at "rd2") => `(tactic| first
  | tm_at "rd1" | refine r_var rfl ?_ | refine r_aug rfl ?_ 
  | refine And.intro (small_n (by simp)) ?_ | tm_at "rdl" | tm_at "rdk")
local macro_rules | `(tactic| tm_at "rdk") => `(tactic| with_reducible first | refine b_isStrV ?_ | refine b_isBlV ?_ | refine b_isIntV ?_ | refine b_isIntB ?_ | refine b_isTupS (by assumption) ?_ | refine b_isTup (by assumption) ?_ | refine b_isInt (by assumption) ?_ | refine b_isBl (by assumption) ?_ | refine b_isStr (by assumption) ?_ | refine b_isLst (by assumption) ?_)
local macro_rules | `(tactic| tm_at "rdl") => `(tactic| first | (with_reducible refine q_len_tx (by assumption) ?_) | (with_reducible refine q_len_tx (by omega) ?_) | (with_reducible refine q_lenB_tx (by assumption) ?_) | (with_reducible refine q_lenB_tx (by omega) ?_))
local macro_rules | `(tactic| tm_at "rd") => `(tactic| repeat tm_at "rd2")
local macro_rules | `(tactic| tm_at "rdw") => `(tactic| repeat (first | tm_at "rd2" | with_reducible refine bd_t rfl ?_ | with_reducible refine bd_f (by decide) ?_ | with_reducible refine bnd_f rfl ?_ | with_reducible refine bnd_t (by decide) ?_))

def signsL : List Nat := cs "0123456789 abtfunFipc;-X~"
theorem signs_in : ∀ j, j < (tx signsL).cps.size → 10 < signsL.getD j 0 ∧ signsL.getD j 0 < 128 := by decide
def others (ch : Nat) (j : Nat) : Option V := if signsL.getD j 0 = ch then none else some (.str (tx [signsL.getD j 0]))
theorem others_ne (ch : Nat) : (List.range (tx signsL).cps.size).filterMap (others ch) ≠ [] := by
  intro e
  have h := List.filterMap_eq_nil_iff.mp e
  by_cases c : ch = 48
  · subst c
    have := h 1 (List.mem_range.mpr (by decide))
    revert this
    unfold others
    rw [if_neg (by decide)]
    intro z
    cases z
  · have := h 0 (List.mem_range.mpr (by decide))
    unfold others at this
    rw [show signsL.getD 0 0 = 48 from rfl, if_neg (fun z => c z.symm)] at this
    cases this
theorem others_mem {ch : Nat} {x : V} (h : x ∈ (List.range (tx signsL).cps.size).filterMap (others ch)) : ∃ d, x = .str (tx [d]) ∧ d ≠ ch ∧ 10 < d ∧ d < 128 := by
  obtain ⟨j, hj, e⟩ := List.mem_filterMap.mp h
  have h1 := signs_in j (List.mem_range.mp hj)
  unfold others at e
  by_cases c : signsL.getD j 0 = ch
  · rw [if_pos c] at e; cases e
  · rw [if_neg c] at e
    exact ⟨_, (Option.some.inj e).symm, c, h1⟩
theorem others_len (ch : Nat) : ((List.range (tx signsL).cps.size).filterMap (others ch)).length ≤ 1000 :=
  Nat.le_trans (List.length_filterMap_le _ _) (by rw [List.length_range]; decide)
theorem if_and {b : Bool} {A : (Bool → Hp → Prop) → Prop} {R N : Hp → Prop} {H : Hp} {E : Prop} (rest : ∀ H', Same H H' → N H') (he : N H → E) (h : b = true → ∀ (Q : Bool → Hp → Prop), (∀ H', Same H H' → Q false H') → A Q) : if b = true then A (fun b H1 => if b = true then R H1 else N H1) else E := by
  split
  · exact h ‹_› _ fun H' s => by rw [if_neg (by decide)]; exact rest H' s
  · exact he (rest H (Same.refl _))
section
variable {P : Program} {w : World} {K : PySem.W.Frag} {mg : Str → Option Value} {base : Heap}
theorem law2 (T : Tx K mg) (D : Td K mg w) {cdv : Value} {A : Around} {outer : List Env} {s : Shared} {Hs : Hp} {E : XK} (hr : Room 20 (A.deeper (envOfC "law" (defScope s_law) s.heap.objs.size T.f_law cdv))) :
    ∃ t, PSs (cxOf CX0 P w K mg base nm_law "law" (defScope s_law) T.f_law cdv A outer s Hs E).nox ((defBody s_law).drop 6) t ∧
      ∀ {p LR LL LE : Addr} {rs : List Rec} {v0 : Option V} {o6 o7 o8 o9 o10 o11 o12 o13 o14 o15 o16 o17 o18 o19 o20 : Option V} {Q : VK} {H : Hp},
        Wr rs → Wl K p LR LL LE rs H → (∀ H', Q (.bl true) H') →
        t { nx := fun _ H' => Q .non H', rt := Q } [v0, some (.ref p), some (.ref LR), some (.ref LL), some (.str (tx (linesFrom 0 rs))), some (.ref LE), o6, o7, o8, o9, o10, o11, o12, o13, o14, o15, o16, o17, o18, o19, o20] H := by
  have G__law_draw := ok_draw (P := P) (w := w) (base := base) T
  have G__law_pick := ok_pick (P := P) (w := w) (base := base) T
  have G__law_is_right := ok_right (P := P) (w := w) (base := base) T D
  have G_read_journal := ok_read_journal (P := P) (w := w) (base := base) T D
  have b__law_draw := T.d__law_draw.F.binds (ps := ["pot", "size"]) fun _ _ _ _ _ _ us hl => match us, hl with | [_, _], _ => rfl
  have b__law_pick := T.d__law_pick.F.binds (ps := ["pot", "some"]) fun _ _ _ _ _ _ us hl => match us, hl with | [_, _], _ => rfl
  have b__law_is_right := T.d__law_is_right.F.binds (ps := ["records", "many", "text"]) fun _ _ _ _ _ _ us hl => match us, hl with | [_, _, _], _ => rfl
  have b_read_journal := T.d_read_journal.F.binds (ps := ["text"]) fun _ _ _ _ _ _ us hl => match us, hl with | [_], _ => rfl
  have kb_read_journal := kb_one T.d_read_journal.F (n := "text") (fun _ _ _ _ _ _ _ => rfl) (fun _ _ _ _ _ _ _ => rfl)
  have hu := hu_of hr
  have hu64 := hr.units
  obtain ⟨t3, h3, q3⟩ := law3 (P := P) (w := w) (base := base) (outer := outer) (Hs := Hs) (E := E) T D hr
  refine ⟨_, (pss_cons (ps_for PassesOwn.never rfl (pi_range1 (by rfl) T.n_range (pa_cons pe_int pa_nil)) (pg_name (i := 8) sc_law.nd rfl (Or.inl rfl)) (pss_cons (ps_set (i := 9) sc_law.nd rfl (Or.inr rfl) (pe_call G__law_draw (hr.mono (by first | decide | omega)) rfl T.d__law_draw.g T.d__law_draw.F.kp b__law_draw .nil pass0 (pa_cons (pv 1) (pa_cons (pe_op (opAddB (K := K) rfl) (pe_callB (caLenB (K := K) rfl) (by rfl) T.n_len (by decide +kernel) (pa_cons (pv 4) pa_nil)) pe_int) pa_nil))))
      (pss_cons (ps_if (pt_not (pt_val (pe_call G__law_is_right (hr.mono (by first | decide | omega)) rfl T.d__law_is_right.g T.d__law_is_right.F.kp b__law_is_right .nil pass0 (pa_cons (pv 2) (pa_cons (pe_callB (caLenB (K := K) rfl) (by rfl) T.n_len (by decide +kernel) (pa_cons (pe_lc (own := [("end", 20)]) (g := gName 20) rfl sc_law.nd (pi_list (pv 5)) (blkOk_by (own := [("end", 20)]) (N := nm_law) (sc := defScope s_law) (by decide +kernel)) (fun _ _ _ _ _ => pg_name (i := 20) sc_law.nd rfl (Or.inl rfl)) (fun _ _ _ _ _ => pts_one (pt_cmpR op_le (pv 20) (pv 9) (nomark _))) (fun _ _ _ _ _ => (pv 20))) pa_nil)) (pa_cons (pe_slice (slB (K := K) rfl) (pv 4) po_none (po_some (pv 9))) pa_nil)))))) (pss_one (ps_ret pe_bl)) pss_nil)
      (pss_cons (ps_set (i := 10) sc_law.nd rfl (Or.inr rfl) (pe_call G__law_draw (hr.mono (by first | decide | omega)) rfl T.d__law_draw.g T.d__law_draw.F.kp b__law_draw .nil pass0 (pa_cons (pv 1) (pa_cons (pe_callB (caLenB (K := K) rfl) (by rfl) T.n_len (by decide +kernel) (pa_cons (pv 4) pa_nil)) pa_nil))))
      (pss_cons (ps_set (i := 11) sc_law.nd rfl (Or.inl rfl) (pe_call G__law_pick (hr.mono (by first | decide | omega)) rfl T.d__law_pick.g T.d__law_pick.F.kp b__law_pick .nil pass0 (pa_cons (pv 1) (pa_cons (pe_lc (own := [("one", 15)]) (g := gName 15) rfl sc_law.nd (pi_str (pe_lit "0123456789 abtfunFipc;-X~")) (blkOk_by (own := [("one", 15)]) (N := nm_law) (sc := defScope s_law) (by decide +kernel)) (fun _ _ _ _ _ => pg_name (i := 15) sc_law.nd rfl (Or.inl rfl)) (fun _ _ _ _ _ => pts_one (pt_cmpR (opNeB (K := K) rfl hu64) (pv 15) (pe_ix (ixAny (K := K) rfl) (pv 4) (pv 10) (fun _ _ => rfl)) (nomark _))) (fun _ _ _ _ _ => (pv 15))) pa_nil))))
      (pss_cons (ps_set (i := 12) sc_law.nd rfl (Or.inl rfl) (pe_callB (caLenB (K := K) rfl) (by rfl) T.n_len (by decide +kernel) (pa_cons (pe_lc (own := [("end", 20)]) (g := gName 20) rfl sc_law.nd (pi_list (pv 5)) (blkOk_by (own := [("end", 20)]) (N := nm_law) (sc := defScope s_law) (by decide +kernel)) (fun _ _ _ _ _ => pg_name (i := 20) sc_law.nd rfl (Or.inl rfl)) (fun _ _ _ _ _ => pts_one (pt_cmpR op_le (pv 20) (pv 10) (nomark _))) (fun _ _ _ _ _ => (pv 20))) pa_nil)))
      (pss_cons (ps_if (PW.pt (pw_and (pt_cmpR (opNeB (K := K) rfl hu64) (pe_ix (ixAny (K := K) rfl) (pv 4) (pv 10) (fun _ _ => rfl)) (pe_lit "\n") (nomark _)) (pw_and1 (pt_not (pt_val (pe_call G__law_is_right (hr.mono (by first | decide | omega)) rfl T.d__law_is_right.g T.d__law_is_right.F.kp b__law_is_right .nil pass0 (pa_cons (pv 2) (pa_cons (pv 12) (pa_cons (pe_op (opAddB (K := K) rfl) (pe_op (opAddB (K := K) rfl) (pe_slice (slB (K := K) rfl) (pv 4) po_none (po_some (pv 10))) (pv 11)) (pe_slice (slB (K := K) rfl) (pv 4) (po_some (pe_op (opAddB (K := K) rfl) (pv 10) pe_int)) po_none)) pa_nil))))))))) (pss_one (ps_ret pe_bl)) pss_nil)
      (pss_cons (ps_asg (pe_call G_read_journal (hr.mono (by first | decide | omega)) rfl T.d_read_journal.g T.d_read_journal.F.kp b_read_journal .nil pass0 (pa_cons (pe_op (opAddB (K := K) rfl) (pe_slice (slB (K := K) rfl) (pv 4) po_none (po_some (pv 10))) (pe_slice (slB (K := K) rfl) (pv 4) (po_some (pe_op (opAddB (K := K) rfl) (pv 10) pe_int)) po_none)) pa_nil)) (pg_tup rfl (pgs_cons (pg_name (i := 13) sc_law.nd rfl (Or.inl rfl)) (pgs_cons (pg_name (i := 14) sc_law.nd rfl (Or.inl rfl)) pgs_nil))))
      (pss_cons (ps_if (PW.pt (pw_or (pt_cmpR (opNeB (K := K) rfl hu64) (pe_slice (slB (K := K) rfl) (pv 13) po_none (po_some (pv 12))) (pe_slice (slB (K := K) rfl) (pv 2) po_none (po_some (pv 12))) (nomark _)) (pw_or1 (pt_cmpR op_gt (pe_callB (caLenB (K := K) rfl) (by rfl) T.n_len (by decide +kernel) (pa_cons (pv 13) pa_nil)) (pv 12) (nomark _))))) (pss_one (ps_ret pe_bl)) pss_nil)
      (pss_cons (ps_asg (pe_callN G_read_journal (hr.mono (by first | decide | omega)) rfl T.d_read_journal.g T.d_read_journal.F.kp kb_read_journal pass0 (pk_cons (pe_op (opAddB (K := K) rfl) (pe_op (opAddB (K := K) rfl) (pe_slice (slB (K := K) rfl) (pv 4) po_none (po_some (pv 10))) (pv 11)) (pe_slice (slB (K := K) rfl) (pv 4) (po_some (pv 10)) po_none)) pk_nil)) (pg_tup rfl (pgs_cons (pg_name (i := 13) sc_law.nd rfl (Or.inl rfl)) (pgs_cons (pg_name (i := 14) sc_law.nd rfl (Or.inl rfl)) pgs_nil))))
      (pss_one (ps_if (pt_cmpR (opNeB (K := K) rfl hu64) (pe_slice (slB (K := K) rfl) (pv 13) po_none (po_some (pv 12))) (pe_slice (slB (K := K) rfl) (pv 2) po_none (po_some (pv 12))) (nomark _)) (pss_one (ps_ret pe_bl)) pss_nil))))))))))))
      h3), ?_⟩
  intro p LR LL LE rs v0 o6 o7 o8 o9 o10 o11 o12 o13 o14 o15 o16 o17 o18 o19 o20 Q H wr w0 k
  have hlen := wr.len
  have hlo := wr.lo
  have hhi := wr.hi
  tm_at "rd"
  refine ⟨12, rfl, by omega, by omega, ?_⟩
  refine for_it (walk_range (lo := 0) (n := (12 : Int).toNat)) (fun i σ Hc => ∃ (o8 o9 o10 o11 o12 o13 o14 o15 o20 : Option V), σ = [v0, some (.ref p), some (.ref LR), some (.ref LL), some (.str (tx (linesFrom 0 rs))), some (.ref LE), o6, o7, o8, o9, o10, o11, o12, o13, o14, o15, o16, o17, o18, o19, o20] ∧ Wl K p LR LL LE rs Hc) ⟨o8, o9, o10, o11, o12, o13, o14, o15, o20, rfl, w0⟩ (fun _ _ _ _ _ => trivial) ?_ ?_
  · clear w0
    rintro ti x σ Hc Hc' hti ⟨o8, o9, o10, o11, o12, o13, o14, o15, o20, rfl, w0⟩ ⟨rfl, rfl⟩
    tm_at "rd"
    refine ⟨p, ((linesFrom 0 rs).length : Int) + 1, rfl, w0.pot, by omega, by omega, fun H1 c s1 c1 c2 => ?_⟩
    obtain ⟨x, rfl⟩ := Int.eq_ofNat_of_zero_le c1
    have hx : x ≤ (linesFrom 0 rs).length := by omega
    have w1 := w0.sx s1
    clear w0 s1 c1 c2
    tm_at "rd"
    refine ⟨LE, rfl, ⟨_, SqL.of w1.en⟩, fun D0 hD => ?_⟩
    refine lc_genF (walk_list (K := K) (a := LE) (xs := (List.range rs.length).map fun j => V.int (endOf rs j : Nat))) (fun j => if endOf rs j ≤ x then some (V.int (endOf rs j : Nat)) else none) (Nat.lt_of_le_of_lt (by rw [List.length_map, List.length_range]; omega : ((List.range rs.length).map fun j => V.int (endOf rs j : Nat)).length ≤ 500) (by decide)) (fun H4 s4 => SqL.of (s4 _ _ w1.en)) (fun j x H4 H5 _ _ y => by rw [y.1]; exact Same.refl _) (fun j x H4 H5 hj s4 y Q3 R3 q qn => ?_) hD (fun H4 s4 h4 => ?_)
    · obtain ⟨rfl, hx⟩ := y
      rw [List.length_map, List.length_range] at hj
      rw [List.getElem?_map, List.getElem?_range hj] at hx
      cases hx
      tm_at "rd"
      refine ⟨rfl, ?_⟩
      tm_at "rd"
      refine bd (fun d1 => ?_) (fun d1 => ?_)
      · tm_at "rd"
        exact q _ (if_pos (by omega)) _ (Same.refl _)
      · exact qn (if_neg (by omega)) _ (Same.refl _)
    rw [List.length_map, List.length_range] at h4
    have w2 := w1.same s4
    clear w1 hD s4
    tm_at "rd"
    refine q_lenB_lst (SqL.of h4) ?_
    rw [show ((List.range rs.length).filterMap fun j => if endOf rs j ≤ x then some (V.int (endOf rs j : Nat)) else none).length = cnt rs x from rfl]
    clear h4
    tm_at "rd"
    refine b_front_tx (by omega) ?_
    obtain ⟨tail, et, hz1, ht1⟩ := cut_tail wr.ok (by omega) hx
    rw [et]
    tm_at "rd"
    refine ⟨LR, rs, cnt rs x, tail, rfl, w2.rc, wr.ok, wr.sq, by omega, hz1, ht1, fun H3 s3 => ?_⟩
    have w3 := w2.same s3
    clear w2 s3 et hz1 ht1
    tm_at "rd"
    refine ⟨p, ((linesFrom 0 rs).length : Int), rfl, w3.pot, by omega, by omega, fun H4 c s4 c1 c2 => ?_⟩
    obtain ⟨y, rfl⟩ := Int.eq_ofNat_of_zero_le c1
    have hy : y < (linesFrom 0 rs).length := by omega
    have w4 := w3.sx s4
    clear w3 s4 c1 c2
    tm_at "rd"
    have hch : (linesFrom 0 rs)[y]? = some ((linesFrom 0 rs).getD y 0) := by rw [List.getD_eq_getElem?_getD, List.getElem?_eq_getElem hy]; rfl
    generalize hce : (linesFrom 0 rs).getD y 0 = ch at hch
    intro D1 hD1
    refine lc_genF (walk_str (z := tx signsL)) (others ch) (by decide) (fun _ _ => trivial) (fun j x H4 H5 _ _ y => by rw [y.1]; exact Same.refl _) (fun j x H5 H6 hj s5 yy Q3 R3 q qn => ?_) hD1 (fun H5 s5 h5 => ?_)
    · obtain ⟨rfl, d, hd, rfl⟩ := yy
      have hd' : signsL.getD j 0 = d := by
        have e : (tx signsL).cps[j]? = signsL[j]? := by show signsL.toArray[j]? = _; simp
        rw [e] at hd
        rw [List.getD_eq_getElem?_getD, hd]
        rfl
      tm_at "rd"
      refine ⟨rfl, ?_⟩
      tm_at "rd"
      refine q_ix_tx (by omega) hch ?_
      refine b_ne_tx (a := [d]) (b := [ch]) ⟨_, rfl, ?_⟩
      refine bnd (fun d1 => ?_) (fun d1 => ?_)
      · tm_at "rd"
        refine q _ ?_ _ (Same.refl _)
        unfold others
        rw [hd', if_neg (fun z => d1 (by rw [z]))]
      · refine qn ?_ _ (Same.refl _)
        unfold others
        rw [hd', if_pos (List.cons.inj d1).1]
    have w5 := w4.same s5
    have nD1 := w4.pot.ne hD1
    tm_at "rd"
    refine ⟨p, D1, _, rfl, w5.pot, SqL.of h5, nD1, others_ne ch, others_len ch, fun H6 sv s6 hsv => ?_⟩
    obtain ⟨d, rfl, hd1, hd2, hd3⟩ := others_mem hsv
    have w6 := w5.sx s6
    clear w4 w5 s5 s6 h5 hD1 nD1 hsv
    have sp := spot_of wr.ok (by omega) hy (hce ▸ hd1) hd2 hd3
    have hkc := (cnt_at rs y).1
    have hokt := ok_take wr.ok (cnt rs y)
    have hsqt := seq_take wr.sq (cnt rs y)
    have htk := tk_len hkc
    have hl1 := lines_len hokt 0 (by omega)
    have htl : ((linesFrom 0 rs).take y).length ≤ 6400 := by rw [List.length_take]; omega
    have hdl : ((linesFrom 0 rs).drop y).length ≤ 6400 := by rw [List.length_drop]; omega
    have hdl1 : ((linesFrom 0 rs).drop (y + 1)).length ≤ 6400 := by rw [List.length_drop]; omega
    have ey1 : ((y : Nat) : Int) + 1 = ((y + 1 : Nat) : Int) := by omega
    tm_at "rd"
    refine ⟨LE, rfl, ⟨_, SqL.of w6.en⟩, fun D0 hD => ?_⟩
    refine lc_genF (walk_list (K := K) (a := LE) (xs := (List.range rs.length).map fun j => V.int (endOf rs j : Nat))) (fun j => if endOf rs j ≤ y then some (V.int (endOf rs j : Nat)) else none) (Nat.lt_of_le_of_lt (by rw [List.length_map, List.length_range]; omega : ((List.range rs.length).map fun j => V.int (endOf rs j : Nat)).length ≤ 500) (by decide)) (fun H7 s7 => SqL.of (s7 _ _ w6.en)) (fun j x H7 H8 _ _ y => by rw [y.1]; exact Same.refl _) (fun j x H7 H8 hj s7 y Q3 R3 q qn => ?_) hD (fun H7 s7 h7 => ?_)
    · obtain ⟨rfl, hx⟩ := y
      rw [List.length_map, List.length_range] at hj
      rw [List.getElem?_map, List.getElem?_range hj] at hx
      cases hx
      tm_at "rd"
      refine ⟨rfl, ?_⟩
      tm_at "rd"
      refine bd (fun d1 => ?_) (fun d1 => ?_)
      · tm_at "rd"
        exact q _ (if_pos (by omega)) _ (Same.refl _)
      · exact qn (if_neg (by omega)) _ (Same.refl _)
    rw [List.length_map, List.length_range] at h7
    have w7 := w6.same s7
    clear w6 hD s7
    tm_at "rd"
    refine q_lenB_lst (SqL.of h7) ?_
    rw [show ((List.range rs.length).filterMap fun j => if endOf rs j ≤ y then some (V.int (endOf rs j : Nat)) else none).length = cnt rs y from rfl]
    clear h7
    tm_at "rd"
    refine q_ix_tx (by omega) hch ?_
    refine b_ne_tx (a := [ch]) (b := cs "\n") ⟨_, rfl, ?_⟩
    refine if_and (fun H8 s8 => ?_) (fun h => h) (fun hb Q3 q3' => ?_)
    · have w8 := w7.same s8
      clear w7 s8
      tm_at "rd"
      refine b_front_tx (by omega) ?_
      tm_at "rd"
      rw [ey1]
      refine b_tail_tx (by omega) ?_
      obtain ⟨tail2, et2, hz2, ht2⟩ := sp.del
      refine b_add_tx (by omega) ?_
      rw [et2]
      tm_at "rd"
      refine ⟨rs.take (cnt rs y), tail2, rfl, hokt, hsqt, by omega, hz2, ht2, fun H9 q L rv s9 hL0 hq hL hA => ?_⟩
      have w9 := w8.same s9
      have hT9 : RecAt K H9 L (rs.take (cnt rs y)) := ⟨rv, hL, hA⟩
      clear w8 s9 hL0 hL hA et2 hz2 ht2
      refine r_gtup (SqT.of hq) rfl ?_
      clear hq
      tm_at "rd"
      refine b_frontR hT9 fun M1 H10 s10 _ hM1 => ?_
      rw [List.take_take, Nat.min_self] at hM1
      have w10 := w9.same s10
      have hT10 := hT9.same s10
      clear w9 hT9 s10
      tm_at "rd"
      refine b_frontR w10.rc fun M2 H11 s11 _ hM2 => ?_
      have w11 := w10.same s11
      have hT11 := hT10.same s11
      refine .inl (q_ne_dat (dp_recs (hM1.same s11)) (dp_recs hM2) (shaped_recs hokt) (shaped_recs hokt) ?_)
      rw [eqv_recs hokt]
      clear w10 hM1 hM2 s11 hT10
      tm_at "rd"
      obtain ⟨rv2, hr1, hr2⟩ := id hT11
      have hrl := hr2.length
      rw [List.length_map, htk] at hrl
      refine q_lenB_lst (SqL.of hr1) ?_
      rw [hrl]
      clear hr1 hr2 hrl hT11
      tm_at "rd"
      refine bd_f (by omega) ?_
      tm_at "rd"
      have w8 := w11
      clear w11
      refine b_front_tx (by omega) ?_
      tm_at "rd"
      refine b_add_tx (by rw [show [d].length = 1 from rfl]; omega) ?_
      tm_at "rd"
      refine b_tail_tx (by omega) ?_
      obtain ⟨tail2, et2, hz2, ht2⟩ := sp.ins
      refine b_add_tx (by rw [List.length_append, show [d].length = 1 from rfl]; omega) ?_
      rw [et2]
      tm_at "rd"
      refine ⟨rs.take (cnt rs y), tail2, rfl, hokt, hsqt, by omega, hz2, ht2, fun H9 q L rv s9 hL0 hq hL hA => ?_⟩
      have w9 := w8.same s9
      have hT9 : RecAt K H9 L (rs.take (cnt rs y)) := ⟨rv, hL, hA⟩
      clear w8 s9 hL0 hL hA et2 hz2 ht2
      refine r_gtup (SqT.of hq) rfl ?_
      clear hq
      tm_at "rd"
      refine b_frontR hT9 fun M1 H10 s10 _ hM1 => ?_
      rw [List.take_take, Nat.min_self] at hM1
      have w10 := w9.same s10
      have hT10 := hT9.same s10
      clear w9 hT9 s10
      tm_at "rd"
      refine b_frontR w10.rc fun M2 H11 s11 _ hM2 => ?_
      have w11 := w10.same s11
      have hT11 := hT10.same s11
      refine .inl (q_ne_dat (dp_recs (hM1.same s11)) (dp_recs hM2) (shaped_recs hokt) (shaped_recs hokt) ?_)
      rw [eqv_recs hokt]
      clear w10 hM1 hM2 s11 hT10
      tm_at "rd"
      exact ⟨_, _, _, _, _, _, _, _, _, rfl, w11⟩
    · have hne : (linesFrom 0 rs).getD y 0 ≠ 10 := fun z => by
        rw [hce] at z
        subst z
        revert hb
        decide
      obtain ⟨tail2, et2, hz2, ht2⟩ := sp.sub hne
      tm_at "rd"
      refine b_front_tx (by omega) ?_
      tm_at "rd"
      refine b_add_tx (by rw [show [d].length = 1 from rfl]; omega) ?_
      tm_at "rd"
      rw [ey1]
      refine b_tail_tx (by omega) ?_
      refine b_add_tx (by rw [List.length_append, show [d].length = 1 from rfl]; omega) ?_
      rw [et2]
      tm_at "rd"
      refine ⟨LR, rs, cnt rs y, tail2, rfl, w7.rc, wr.ok, wr.sq, by omega, hz2, ht2, fun H8 s8 => ?_⟩
      tm_at "rd"
      exact q3' _ s8
  · rintro σ Hc ⟨o8, o9, o10, o11, o12, o13, o14, o15, o20, rfl, w1⟩
    exact q3 wr w1 k
end
end K68

set_option maxHeartbeats 8000000
set_option pp.maxSteps 300
/-! W68s: the law, whole. -/
namespace K68
open PySem PySem.Spec PyProof.Rows L2 TL Ak Kd Jn
local macro_rules | `(tactic| tm_at "rd1") => `(tactic| with_reducible first
  | refine r_seq ?_ | refine r_ifS ?_ | refine r_ret ?_ | refine r_asg ?_ | refine r_next ?_ | refine r_drop ?_ | refine r_par ?_ | refine r_brk ?_ | refine r_cont ?_
  | refine r_op ?_ | refine r_c ?_ | refine r_cb ?_ | refine r_cons ?_ | refine r_nil ?_ | refine r_un ?_ | refine r_tB ?_ | refine r_test ?_ | refine r_not ?_ | refine r_and ?_ | refine r_or ?_ | refine r_andV ?_ | refine r_orV ?_ | refine r_notV ?_ | refine r_if ?_ | refine r_chain ?_
  | refine r_tup ?_ | refine r_lst ?_ | refine r_lstN ?_ | refine r_sl ?_ | refine r_part ?_ | refine r_nopart ?_ | refine r_call ?_ | refine r_callK ?_ | refine r_bm ?_ | refine r_bm0 ?_ | refine r_m1 ?_ | refine r_m0 ?_ | refine r_isN ?_ | refine r_notN ?_
  | refine r_gcons ?_ | refine r_gnil ?_ | refine r_gsub ?_ | refine r_name ?_ | refine r_ilist ?_ | refine r_itup ?_ | refine r_istr ?_ | refine r_irng1 ?_ | refine r_ienum ?_ | refine r_mko ?_ | refine r_yes ?_ | refine r_lc ?_ | refine r_for ?_ | refine turn_i ?_
  | refine r_dput ?_ | refine r_dget ?_ | refine r_izipA ?_ | refine r_ienumT ?_ | refine r_back ?_ | refine r_dsetd ?_ | refine r_dgetN ?_ | refine r_dnotinN ?_ | refine r_isTr ?_ | refine r_lockAsg ?_ | refine r_bl ?_ | refine r_int ?_ | refine r_two ?_ | refine r_str ?_ | refine r_two1 ?_
  | refine b_t ?_ | refine b_f ?_ | refine b_nt ?_ | refine b_nf ?_ | refine q_u ?_ | refine q_i0 ?_ | refine q_ipI ?_ | refine b_add_int ?_ | refine b_eq_int ?_ | refine b_ne_int ?_ | refine b_eq_tx ?_ | refine b_ne_tx ?_ | refine b_in_sg ?_ | refine q_ni_sg ?_)
local macro_rules | `(tactic| tm_at "rd2") => `(tactic| first
  | tm_at "rd1" | refine r_var rfl ?_ | refine r_aug rfl ?_ 
  | refine And.intro (small_n (by simp)) ?_ | tm_at "rdl" | tm_at "rdk")
local macro_rules | `(tactic| tm_at "rdk") => `(tactic| with_reducible first | refine b_isStrV ?_ | refine b_isBlV ?_ | refine b_isIntV ?_ | refine b_isIntB ?_ | refine b_isTupS (by assumption) ?_ | refine b_isTup (by assumption) ?_ | refine b_isInt (by assumption) ?_ | refine b_isBl (by assumption) ?_ | refine b_isStr (by assumption) ?_ | refine b_isLst (by assumption) ?_)
local macro_rules | `(tactic| tm_at "rdl") => `(tactic| first | (with_reducible refine q_len_tx (by assumption) ?_) | (with_reducible refine q_len_tx (by omega) ?_) | (with_reducible refine q_lenB_tx (by assumption) ?_) | (with_reducible refine q_lenB_tx (by omega) ?_))
local macro_rules | `(tactic| tm_at "rd") => `(tactic| repeat tm_at "rd2")
local macro_rules | `(tactic| tm_at "rdw") => `(tactic| repeat (first | tm_at "rd2" | with_reducible refine bd_t rfl ?_ | with_reducible refine bd_f (by decide) ?_ | with_reducible refine bnd_f rfl ?_ | with_reducible refine bnd_t (by decide) ?_))

section
variable {P : Program} {w : World} {K : PySem.W.Frag} {mg : Str → Option Value} {base : Heap}
def sp_law (K : PySem.W.Frag) : Sp := fun vs H Q _ => ∃ (a : Addr) (ns : List Int), vs = [.ref a] ∧ SqL K H a (ns.map V.int) ∧ ns.length ≤ 63 ∧ ∀ H', Q (.bl true) H'
theorem end_succ {rs : List Rec} {j : Nat} {r : Rec} (h : rs[j]? = some r) : ((linesFrom 0 (rs.take j)).length : Int) + ((line j r).length : Nat) = (endOf rs j : Nat) := by
  unfold endOf
  have hs := congrArg List.length (lines_succ h)
  simp only [List.length_append, List.length_cons, List.length_nil] at hs
  simp only [line, List.length_append, List.length_cons, List.length_nil]
  omega
theorem ok_law (T : Tx K mg) (D : Td K mg w) : FnOk P w K mg base CX0 21 T.f_law T.fd_law ["script"] (sp_law K) := by
  have G__law_pot := ok_pot (P := P) (w := w) (base := base) T
  have G__law_pick := ok_pick (P := P) (w := w) (base := base) T
  have G__law_records := ok_records (P := P) (w := w) (base := base) T
  have G_record_line := ok_record_line (P := P) (w := w) (base := base) T D
  have G_journal_text := ok_journal_text (P := P) (w := w) (base := base) T D
  have b__law_pot := T.d__law_pot.F.binds (ps := ["script", "k"]) fun _ _ _ _ _ _ us hl => match us, hl with | [_, _], _ => rfl
  have b__law_pick := T.d__law_pick.F.binds (ps := ["pot", "some"]) fun _ _ _ _ _ _ us hl => match us, hl with | [_, _], _ => rfl
  have b__law_records := T.d__law_records.F.binds (ps := ["pot", "many"]) fun _ _ _ _ _ _ us hl => match us, hl with | [_, _], _ => rfl
  have b_record_line := T.d_record_line.F.binds (ps := ["number", "record"]) fun _ _ _ _ _ _ us hl => match us, hl with | [_, _], _ => rfl
  have b_journal_text := T.d_journal_text.F.binds (ps := ["records"]) fun _ _ _ _ _ _ us hl => match us, hl with | [_], _ => rfl
  refine T.d_law.F.ok sc_law (fun vs H Q E h => ?_) (fun cdv A outer s H vs Q E hr h => ?_)
  · obtain ⟨a, ns, rfl, _⟩ := h
    rfl
  · obtain ⟨a, ns, rfl, hS, hn, k⟩ := h
    have hu := hu_of hr
    have hu64 := hr.units
    obtain ⟨t2, h2, q2⟩ := law2 (P := P) (w := w) (base := base) (outer := outer) (Hs := H) (E := E) T D hr
    refine ⟨_, (pss_cons (ps_set (i := 1) sc_law.nd rfl (Or.inl rfl) (pe_call G__law_pot (hr.mono (by first | decide | omega)) rfl T.d__law_pot.g T.d__law_pot.F.kp b__law_pot .nil pass0 (pa_cons (pv 0) (pa_cons pe_int pa_nil))))
      (pss_cons (ps_set (i := 2) sc_law.nd rfl (Or.inl rfl) (pe_call G__law_records (hr.mono (by first | decide | omega)) rfl T.d__law_records.g T.d__law_records.F.kp b__law_records .nil pass0 (pa_cons (pv 1) (pa_cons (pe_call G__law_pick (hr.mono (by first | decide | omega)) rfl T.d__law_pick.g T.d__law_pick.F.kp b__law_pick .nil pass0 (pa_cons (pv 1) (pa_cons (pe_lst (pa_cons pe_int (pa_cons pe_int (pa_cons pe_int pa_nil)))) pa_nil))) pa_nil))))
      (pss_cons (ps_set (i := 3) sc_law.nd rfl (Or.inr rfl) (pe_lc (own := [("number", 18), ("record", 19)]) (g := (gTup K 2 (gCons (gName 18) (gCons (gName 19) gNil)))) rfl sc_law.nd (pi_enum (by rfl) T.n_enumerate (pa_cons (pv 2) pa_nil)) (blkOk_by (own := [("number", 18), ("record", 19)]) (N := nm_law) (sc := defScope s_law) (by decide +kernel)) (fun _ _ _ _ _ => pg_tup rfl (pgs_cons (pg_name (i := 18) sc_law.nd rfl (Or.inl rfl)) (pgs_cons (pg_name (i := 19) sc_law.nd rfl (Or.inl rfl)) pgs_nil))) (fun _ _ _ _ _ => pts_nil) (fun _ _ _ _ _ => (pe_call G_record_line (hr.mono (by first | decide | omega)) rfl T.d_record_line.g T.d_record_line.F.kp b_record_line .nil pass0 (pa_cons (pv 18) (pa_cons (pv 19) pa_nil))))))
      (pss_cons (ps_asg (pe_tup (pa_cons (pe_call G_journal_text (hr.mono (by first | decide | omega)) rfl T.d_journal_text.g T.d_journal_text.F.kp b_journal_text .nil pass0 (pa_cons (pv 2) pa_nil)) (pa_cons (pe_lst pa_nil) (pa_cons pe_int pa_nil)))) (pg_tup rfl (pgs_cons (pg_name (i := 4) sc_law.nd rfl (Or.inr rfl)) (pgs_cons (pg_name (i := 5) sc_law.nd rfl (Or.inl rfl)) (pgs_cons (pg_name (i := 6) sc_law.nd rfl (Or.inl rfl)) pgs_nil)))))
      (pss_cons (ps_for PassesOwn.never rfl (pi_list (pv 3)) (pg_name (i := 7) sc_law.nd rfl (Or.inl rfl)) (pss_cons (ps_set (i := 6) sc_law.nd rfl (Or.inl rfl) (pe_op (opAddB (K := K) rfl) (pv 6) (pe_callB (caLenB (K := K) rfl) (by rfl) T.n_len (by decide +kernel) (pa_cons (pv 7) pa_nil))))
      (pss_one (ps_expr (pe_bm PySem.F.plainAttrs_list PySem.F.slot_list_append PySem.F.type_list_append mt_append (pv 5) (pa_cons (pv 6) pa_nil))))))
      (pss_cons (ps_if (pt_cmpR (opNeB (K := K) rfl hu64) (pv 4) (pe_joinK (K := K) rfl (pe_lit "") (pv 3)) (nomark _)) (pss_one (ps_ret pe_bl)) pss_nil)
      h2)))))), ?_⟩
    tm_at "rd"
    refine ⟨a, ns, 0, rfl, hS, by omega, fun H1 p s1 hp hp0 => ?_⟩
    clear hS s1 hp0
    tm_at "rd"
    intro M hM
    tm_at "rd"
    refine pick_at hp hM (by simp) (by simp) fun x hx H2 s2 => ?_
    obtain ⟨m, rfl, hm1, hm2⟩ : ∃ m : Nat, x = .int (m : Nat) ∧ 2 ≤ m ∧ m ≤ 30 := by
      simp only [List.mem_cons, List.not_mem_nil, or_false] at hx
      rcases hx with rfl | rfl | rfl
      · exact ⟨2, rfl, by omega, by omega⟩
      · exact ⟨8, rfl, by omega, by omega⟩
      · exact ⟨30, rfl, by omega, by omega⟩
    have hp2 := s2.2
    clear hp hM hx s2
    tm_at "rd"
    refine ⟨p, m, rfl, hp2, hm2, fun H3 LR rv rs s3 nR hL hA hok hsq hlen => ?_⟩
    have hp3 := s3.2
    have hR : RecAt K H3 LR rs := ⟨rv, hL, hA⟩
    have wr : Wr rs := ⟨hok, hsq, by omega, by omega⟩
    clear hp2 s3 hsq
    have hal := hA.length
    rw [List.length_map] at hal
    tm_at "rd"
    refine ⟨LR, rv, rfl, SqL.of hL, fun LL hD => ?_⟩
    have nL := hp3.ne hD
    refine lc_gen (walk_enum (K := K) (a := LR) (xs := rv)) (fun j => .str (tx (line (0 + j) (rs.getD j (.begun 0))))) (Nat.lt_of_le_of_lt (by omega : rv.length ≤ 500) (by decide)) (fun H4 s4 => SqL.of (s4 _ _ hL)) (fun j x H4 H5 _ s4 y => ?_) (fun j x H4 H5 hj s4 y Q3 R3 q => ?_) hD (fun H4 s4 h4 => ?_)
    · obtain ⟨T', x', y', rfl, hT, rfl, _, _⟩ := y
      exact same_new hT
    · obtain ⟨T', x', y', rfl, hT, rfl, hx, hy⟩ := y
      obtain rfl : x' = .int (j : Nat) := (Option.some.inj hx).symm
      obtain ⟨d, hd1, hd2⟩ := dp_at (hA.same s4) hy
      rw [List.getElem?_map] at hd1
      obtain ⟨rj, ej, rfl⟩ := Option.map_eq_some_iff.mp hd1
      rw [List.getD_eq_getElem?_getD, ej, Nat.zero_add] at q
      have e12 : (500 : Nat) < 10 ^ 12 := by decide
      refine r_gtup (SqT.of upd_same) rfl ?_
      tm_at "rd"
      refine ⟨rfl, ?_⟩
      tm_at "rd"
      exact ⟨y', rj, j, rfl, by omega, hd2.same (same_new hT), hok rj (List.mem_of_getElem? ej), fun H4 s4 => q _ s4⟩
    have e1 : (List.range rv.length).map (fun j => V.str (tx (line (0 + j) (rs.getD j (.begun 0))))) = (lns rs).map fun p => V.str (tx p) := by
      rw [hal]
      unfold lns
      rw [← lines_range rs 0, List.map_map]
      rfl
    rw [e1] at h4
    have hp4 := hp3.same s4
    have hR4 := hR.same s4
    clear hp3 hR hL hA hD s4 e1 hal
    obtain ⟨rv, hL, hA⟩ := id hR4
    tm_at "rd"
    refine ⟨LR, rv, rs, rfl, hL, hA, hok, wr.sq, by omega, fun H5 s5 => ?_⟩
    have hp5 := hp4.same s5
    have hR5 := hR4.same s5
    have h5 := s5 _ _ h4
    clear hp4 hR4 hL hA s5 h4
    dsimp only
    tm_at "rd"
    intro LE hLE
    have nE := hp5.ne hLE
    have s6 := SX.of hp5 (same_new (o := .lst []) hLE)
    have h6 := upd_same (H := H5) (a := LE) (o := .lst [])
    generalize upd H5 LE (.lst []) = H6 at s6 h6
    repeat (with_reducible first | refine r_nil ?_ | refine r_c ?_ | refine r_cons ?_)
    refine ⟨small_n (by simp), fun q hq => ?_⟩
    have sq := same_new (o := .tup [.str (tx (linesFrom 0 rs)), .ref LE, .int 0]) hq
    have s7 := s6.then sq
    have h7 := sq _ _ h6
    refine r_gtup (SqT.of upd_same) rfl ?_
    generalize upd H6 q (.tup [.str (tx (linesFrom 0 rs)), .ref LE, .int 0]) = H7 at s7 h7
    clear s6 h6 hq sq
    tm_at "rd"
    refine ⟨LL, rfl, ⟨_, SqL.of (s7.1 _ _ nL h5)⟩, ?_⟩
    have hln := lines_len hok 0 (by omega)
    refine for_it (walk_list (K := K) (a := LL) (xs := (lns rs).map fun p => V.str (tx p))) (fun i σ Hc => ∃ (o7 : Option V), σ = [some (.ref a), some (.ref p), some (.ref LR), some (.ref LL), some (.str (tx (linesFrom 0 rs))), some (.ref LE), some (.int ((linesFrom 0 (rs.take i)).length : Nat)), o7, none, none, none, none, none, none, none, none, none, none, none, none, none] ∧ SX p H5 Hc ∧ Hc LE = some (.lst ((List.range i).map fun j => V.int (endOf rs j : Nat)))) ⟨none, rfl, s7, h7⟩ (fun i σ Hc _ hI => SqL.of (by obtain ⟨_, _, s, _⟩ := hI; exact s.1 _ _ nL h5)) ?_ ?_
    · clear s7 h7
      rintro i x σ Hc Hc' hi ⟨o7, rfl, s7, h7⟩ ⟨rfl, hx⟩
      rw [List.length_map, lns_length] at hi
      have hri : rs[i]? = some rs[i] := List.getElem?_eq_getElem hi
      rw [List.getElem?_map, lns_at hri] at hx
      cases hx
      have hl := line_len (n := i) (by have : (40 : Nat) < 10 ^ 12 := by decide
                                       omega) (hok _ (List.getElem_mem hi))
      tm_at "rd"
      rw [end_succ hri]
      tm_at "rd"
      refine ⟨ty_l h7, ?_⟩
      tm_at "rd"
      refine ⟨LE, _, .int (endOf rs i : Nat), rfl, rfl, h7, Nat.lt_of_le_of_lt (by rw [List.length_map, List.length_range]; omega : _ ≤ 200) (by decide), ?_⟩
      refine ⟨_, rfl, sx_upd hLE nE s7, ?_⟩
      rw [upd_same, List.range_succ, List.map_append]
      rfl
    · rintro σ Hc ⟨o7, rfl, s8, h8⟩
      rw [List.length_map, lns_length] at h8
      have w1 : Wl K p LR LL LE rs Hc := ⟨s8.2, hR5.sx s8 hp5 nR, nR, s8.1 _ _ nL h5, nL, h8, nE⟩
      tm_at "rd"
      refine b_join0 w1.lin (by rw [lns_flat]; omega) ?_
      rw [lns_flat]
      tm_at "rd"
      refine bnd_f rfl ?_
      tm_at "rd"
      exact q2 wr w1 k
end
end K68

set_option maxHeartbeats 4000000
/-! W68t: the module's dicts, read from the written part. -/
namespace K68
open PySem PySem.Spec PyProof.Rows L2 TL Ak Kd Jn He
theorem law_binds {K : PySem.W.Frag} {f : Addr} {fd : FuncData} (F : Fun K "law" "law" s_law f fd) (s : Shared) (u : Value) : BindsTo s fd ⟨[u], []⟩ [("script", u)] := by
  obtain ⟨oc, od, kV, doc, pm, an, cdv, ct, osl, rfl, lk, hcd⟩ := F.ex
  exact .of_eq rfl
section
variable {K : PySem.W.Frag} {h : Heap} {mg : Str → Option Value} {G' : Prop} {w : World} {x : Str} {a d : Addr}
theorem then_kd {es : Array DictEntry} {n : Nat} {sl : Array (Option Value)} (ks : List Str) (X : K.In h) (G : h.Ns mainGlobals mg) (e : PySem.W.nsIn K mainGlobals x = some (some (.ref a)))
    (l : K.lookup a = some ⟨.type "dict", none, .dict es n, sl⟩) (z : (sl.isEmpty && !(a == sysModules)) = true) (hk : es.toList.map He.keyOf = He.keysIn w.params ks)
    (go : (∃ u, mg x = some u ∧ RelV (.ref a) u) → KD K w a ks → G') : G' :=
  go ⟨_, PySem.W.mg_of X G e, rfl⟩ ⟨by
    unfold He.dicW
    rw [l]
    simp only [z, decide_true, Bool.and_true]
    exact congrArg some hk⟩
theorem then_kat_tup {ks : List Str} (D : KD K w d ks) {od : Option Addr} {its : Array Value} {n : Nat} {sl : Array (Option Value)} (xs : List V) (e : PySem.W.nsIn K d x = some (some (.ref a)))
    (l : K.lookup a = some ⟨.type "tuple", od, .seq its n, sl⟩) (z : its.size ≤ 100) (v : Vals xs its.toList) (go : KAt K d x (.ref a) → (∀ H : Hp, SqT K H a xs) → G') : G' :=
  go ⟨_, e, rfl⟩ fun H => .inr ⟨_, its, n, l, rfl, rfl, Nat.le_trans z (by decide), v⟩
theorem then_kat_str {ks : List Str} (D : KD K w d ks) {t : Tok} (s : String) (e : PySem.W.nsIn K d x = some (some (.str (Str.ofString s) t))) (go : KAt K d x (.str (tx (cs s))) → G') : G' := go ⟨_, e, rel_lit⟩
theorem then_kat_int {ks : List Str} (D : KD K w d ks) {t : Tok} (i : Int) (e : PySem.W.nsIn K d x = some (some (.int i t))) (go : KAt K d x (.int i) → G') : G' := go ⟨_, e, t, rfl⟩
theorem then_kno {ks : List Str} (D : KD K w d ks) (e : PySem.W.nsIn K d x = some none) (go : KNo K d x → G') : G' := go e
end
end K68

open PySem PySem.W PyProof.Rows
set_option maxHeartbeats 0 in
theorem PySem.Challenge.cw_asktongue_k68_whole_journals_cut_and_spo_holds : PySem.Challenge.rw_asktongue_k68_whole_journals_cut_and_spo.Holds := by
  w_on; o_law; k_head; (case hw => w_witness2)
  k_fill
  refine Ak.walk_ofQ (k := 21) (x := "script") (sp := K68.sp_law) rfl (by decide) rfl ⟨rfl, by decide, by decide⟩ rfl (fun w h Y => PySem.W.kIn_of Y) ?F ?S
  case F =>
    intro w mg fa h KX G hmg
    refine' Ak.then_def (x := "is_integer") (st := K68.s_is_integer) KX G ?a ?l ?c ?k ?_
    (case a => k_is); (case l => k_is); (case c => k_is); (case k => k_is); intro f_is_integer fd_is_integer d_is_integer
    refine' Ak.then_def (x := "is_count") (st := K68.s_is_count) KX G ?a ?l ?c ?k ?_
    (case a => k_is); (case l => k_is); (case c => k_is); (case k => k_is); intro f_is_count fd_is_count d_is_count
    refine' Ak.then_def (x := "is_row") (st := K68.s_is_row) KX G ?a ?l ?c ?k ?_
    (case a => k_is); (case l => k_is); (case c => k_is); (case k => k_is); intro f_is_row fd_is_row d_is_row
    refine' Ak.then_def (x := "is_int") (st := K68.s_is_int) KX G ?a ?l ?c ?k ?_
    (case a => k_is); (case l => k_is); (case c => k_is); (case k => k_is); intro f_is_int fd_is_int d_is_int
    refine' Ak.then_def (x := "has_signs") (st := K68.s_has_signs) KX G ?a ?l ?c ?k ?_
    (case a => k_is); (case l => k_is); (case c => k_is); (case k => k_is); intro f_has_signs fd_has_signs d_has_signs
    refine' Ak.then_def (x := "is_name") (st := K68.s_is_name) KX G ?a ?l ?c ?k ?_
    (case a => k_is); (case l => k_is); (case c => k_is); (case k => k_is); intro f_is_name fd_is_name d_is_name
    refine' Ak.then_def (x := "is_ask_name") (st := K68.s_is_ask_name) KX G ?a ?l ?c ?k ?_
    (case a => k_is); (case l => k_is); (case c => k_is); (case k => k_is); intro f_is_ask_name fd_is_ask_name d_is_ask_name
    refine' Ak.then_def (x := "is_sign") (st := K68.s_is_sign) KX G ?a ?l ?c ?k ?_
    (case a => k_is); (case l => k_is); (case c => k_is); (case k => k_is); intro f_is_sign fd_is_sign d_is_sign
    refine' Ak.then_def (x := "are_two_names") (st := K68.s_are_two_names) KX G ?a ?l ?c ?k ?_
    (case a => k_is); (case l => k_is); (case c => k_is); (case k => k_is); intro f_are_two_names fd_are_two_names d_are_two_names
    refine' Ak.then_def (x := "are_clauses") (st := K68.s_are_clauses) KX G ?a ?l ?c ?k ?_
    (case a => k_is); (case l => k_is); (case c => k_is); (case k => k_is); intro f_are_clauses fd_are_clauses d_are_clauses
    refine' Ak.then_def (x := "is_node") (st := K68.s_is_node) KX G ?a ?l ?c ?k ?_
    (case a => k_is); (case l => k_is); (case c => k_is); (case k => k_is); intro f_is_node fd_is_node d_is_node
    refine' Ak.then_def (x := "children_of") (st := K68.s_children_of) KX G ?a ?l ?c ?k ?_
    (case a => k_is); (case l => k_is); (case c => k_is); (case k => k_is); intro f_children_of fd_children_of d_children_of
    refine' Ak.then_def (x := "is_within") (st := K68.s_is_within) KX G ?a ?l ?c ?k ?_
    (case a => k_is); (case l => k_is); (case c => k_is); (case k => k_is); intro f_is_within fd_is_within d_is_within
    refine' Ak.then_def (x := "is_data_of") (st := K68.s_is_data_of) KX G ?a ?l ?c ?k ?_
    (case a => k_is); (case l => k_is); (case c => k_is); (case k => k_is); intro f_is_data_of fd_is_data_of d_is_data_of
    refine' Ak.then_def (x := "is_telling_of") (st := K68.s_is_telling_of) KX G ?a ?l ?c ?k ?_
    (case a => k_is); (case l => k_is); (case c => k_is); (case k => k_is); intro f_is_telling_of fd_is_telling_of d_is_telling_of
    refine' Ak.then_def (x := "word_of") (st := K68.s_word_of) KX G ?a ?l ?c ?k ?_
    (case a => k_is); (case l => k_is); (case c => k_is); (case k => k_is); intro f_word_of fd_word_of d_word_of
    refine' Ak.then_def (x := "int_from") (st := K68.s_int_from) KX G ?a ?l ?c ?k ?_
    (case a => k_is); (case l => k_is); (case c => k_is); (case k => k_is); intro f_int_from fd_int_from d_int_from
    refine' Ak.then_def (x := "telling_from") (st := K68.s_telling_from) KX G ?a ?l ?c ?k ?_
    (case a => k_is); (case l => k_is); (case c => k_is); (case k => k_is); intro f_telling_from fd_telling_from d_telling_from
    refine' Ak.then_def (x := "telling_by") (st := K68.s_telling_by) KX G ?a ?l ?c ?k ?_
    (case a => k_is); (case l => k_is); (case c => k_is); (case k => k_is); intro f_telling_by fd_telling_by d_telling_by
    refine' Ak.then_def (x := "is_record_of") (st := K68.s_is_record_of) KX G ?a ?l ?c ?k ?_
    (case a => k_is); (case l => k_is); (case c => k_is); (case k => k_is); intro f_is_record_of fd_is_record_of d_is_record_of
    refine' Ak.then_def (x := "is_number") (st := K68.s_is_number) KX G ?a ?l ?c ?k ?_
    (case a => k_is); (case l => k_is); (case c => k_is); (case k => k_is); intro f_is_number fd_is_number d_is_number
    refine' Ak.then_def (x := "follows") (st := K68.s_follows) KX G ?a ?l ?c ?k ?_
    (case a => k_is); (case l => k_is); (case c => k_is); (case k => k_is); intro f_follows fd_follows d_follows
    refine' Ak.then_def (x := "are_records_of") (st := K68.s_are_records_of) KX G ?a ?l ?c ?k ?_
    (case a => k_is); (case l => k_is); (case c => k_is); (case k => k_is); intro f_are_records_of fd_are_records_of d_are_records_of
    refine' Ak.then_def (x := "sum_of_signs") (st := K68.s_sum_of_signs) KX G ?a ?l ?c ?k ?_
    (case a => k_is); (case l => k_is); (case c => k_is); (case k => k_is); intro f_sum_of_signs fd_sum_of_signs d_sum_of_signs
    refine' Ak.then_def (x := "parts_of") (st := K68.s_parts_of) KX G ?a ?l ?c ?k ?_
    (case a => k_is); (case l => k_is); (case c => k_is); (case k => k_is); intro f_parts_of fd_parts_of d_parts_of
    refine' Ak.then_def (x := "line_of") (st := K68.s_line_of) KX G ?a ?l ?c ?k ?_
    (case a => k_is); (case l => k_is); (case c => k_is); (case k => k_is); intro f_line_of fd_line_of d_line_of
    refine' Ak.then_def (x := "number_by") (st := K68.s_number_by) KX G ?a ?l ?c ?k ?_
    (case a => k_is); (case l => k_is); (case c => k_is); (case k => k_is); intro f_number_by fd_number_by d_number_by
    refine' Ak.then_def (x := "record_by") (st := K68.s_record_by) KX G ?a ?l ?c ?k ?_
    (case a => k_is); (case l => k_is); (case c => k_is); (case k => k_is); intro f_record_by fd_record_by d_record_by
    refine' Ak.then_def (x := "record_in") (st := K68.s_record_in) KX G ?a ?l ?c ?k ?_
    (case a => k_is); (case l => k_is); (case c => k_is); (case k => k_is); intro f_record_in fd_record_in d_record_in
    refine' Ak.then_def (x := "journal_of") (st := K68.s_journal_of) KX G ?a ?l ?c ?k ?_
    (case a => k_is); (case l => k_is); (case c => k_is); (case k => k_is); intro f_journal_of fd_journal_of d_journal_of
    refine' Ak.then_def (x := "read_of") (st := K68.s_read_of) KX G ?a ?l ?c ?k ?_
    (case a => k_is); (case l => k_is); (case c => k_is); (case k => k_is); intro f_read_of fd_read_of d_read_of
    refine' Ak.then_def (x := "want_journal") (st := K68.s_want_journal) KX G ?a ?l ?c ?k ?_
    (case a => k_is); (case l => k_is); (case c => k_is); (case k => k_is); intro f_want_journal fd_want_journal d_want_journal
    refine' Ak.then_def (x := "are_records") (st := K68.s_are_records) KX G ?a ?l ?c ?k ?_
    (case a => k_is); (case l => k_is); (case c => k_is); (case k => k_is); intro f_are_records fd_are_records d_are_records
    refine' Ak.then_def (x := "sum_of") (st := K68.s_sum_of) KX G ?a ?l ?c ?k ?_
    (case a => k_is); (case l => k_is); (case c => k_is); (case k => k_is); intro f_sum_of fd_sum_of d_sum_of
    refine' Ak.then_def (x := "record_line") (st := K68.s_record_line) KX G ?a ?l ?c ?k ?_
    (case a => k_is); (case l => k_is); (case c => k_is); (case k => k_is); intro f_record_line fd_record_line d_record_line
    refine' Ak.then_def (x := "journal_text") (st := K68.s_journal_text) KX G ?a ?l ?c ?k ?_
    (case a => k_is); (case l => k_is); (case c => k_is); (case k => k_is); intro f_journal_text fd_journal_text d_journal_text
    refine' Ak.then_def (x := "read_journal") (st := K68.s_read_journal) KX G ?a ?l ?c ?k ?_
    (case a => k_is); (case l => k_is); (case c => k_is); (case k => k_is); intro f_read_journal fd_read_journal d_read_journal
    refine' Ak.then_def (x := "_law_pot") (st := K68.s__law_pot) KX G ?a ?l ?c ?k ?_
    (case a => k_is); (case l => k_is); (case c => k_is); (case k => k_is); intro f__law_pot fd__law_pot d__law_pot
    refine' Ak.then_def (x := "_law_draw") (st := K68.s__law_draw) KX G ?a ?l ?c ?k ?_
    (case a => k_is); (case l => k_is); (case c => k_is); (case k => k_is); intro f__law_draw fd__law_draw d__law_draw
    refine' Ak.then_def (x := "_law_pick") (st := K68.s__law_pick) KX G ?a ?l ?c ?k ?_
    (case a => k_is); (case l => k_is); (case c => k_is); (case k => k_is); intro f__law_pick fd__law_pick d__law_pick
    refine' Ak.then_def (x := "_law_data") (st := K68.s__law_data) KX G ?a ?l ?c ?k ?_
    (case a => k_is); (case l => k_is); (case c => k_is); (case k => k_is); intro f__law_data fd__law_data d__law_data
    refine' Ak.then_def (x := "_law_records") (st := K68.s__law_records) KX G ?a ?l ?c ?k ?_
    (case a => k_is); (case l => k_is); (case c => k_is); (case k => k_is); intro f__law_records fd__law_records d__law_records
    refine' Ak.then_def (x := "_law_is_right") (st := K68.s__law_is_right) KX G ?a ?l ?c ?k ?_
    (case a => k_is); (case l => k_is); (case c => k_is); (case k => k_is); intro f__law_is_right fd__law_is_right d__law_is_right
    refine' Ak.then_def (x := "law") (st := K68.s_law) KX G ?a ?l ?c ?k ?_
    (case a => k_is); (case l => k_is); (case c => k_is); (case k => k_is); intro f_law fd_law d_law
    refine' Ak.then_none (x := "abs") KX G ?a ?_; (case a => k_is); intro n_abs
    refine' Ak.then_none (x := "all") KX G ?a ?_; (case a => k_is); intro n_all
    refine' Ak.then_none (x := "bool") KX G ?a ?_; (case a => k_is); intro n_bool
    refine' Ak.then_none (x := "divmod") KX G ?a ?_; (case a => k_is); intro n_divmod
    refine' Ak.then_none (x := "enumerate") KX G ?a ?_; (case a => k_is); intro n_enumerate
    refine' Ak.then_none (x := "int") KX G ?a ?_; (case a => k_is); intro n_int
    refine' Ak.then_none (x := "isinstance") KX G ?a ?_; (case a => k_is); intro n_isinstance
    refine' Ak.then_none (x := "len") KX G ?a ?_; (case a => k_is); intro n_len
    refine' Ak.then_none (x := "list") KX G ?a ?_; (case a => k_is); intro n_list
    refine' Ak.then_none (x := "max") KX G ?a ?_; (case a => k_is); intro n_max
    refine' Ak.then_none (x := "min") KX G ?a ?_; (case a => k_is); intro n_min
    refine' Ak.then_none (x := "ord") KX G ?a ?_; (case a => k_is); intro n_ord
    refine' Ak.then_none (x := "range") KX G ?a ?_; (case a => k_is); intro n_range
    refine' Ak.then_none (x := "set") KX G ?a ?_; (case a => k_is); intro n_set
    refine' Ak.then_none (x := "sorted") KX G ?a ?_; (case a => k_is); intro n_sorted
    refine' Ak.then_none (x := "str") KX G ?a ?_; (case a => k_is); intro n_str
    refine' Ak.then_none (x := "tuple") KX G ?a ?_; (case a => k_is); intro n_tuple
    refine' Ak.then_int (x := "LEAST_INT") (i := -2147483648) KX G ?a ?_; (case a => k_is); intro c_LEAST_INT
    refine' Ak.then_int (x := "MOST_INT") (i := 2147483647) KX G ?a ?_; (case a => k_is); intro c_MOST_INT
    refine' Ak.then_int (x := "MOST_SIGNS_words") (i := 12) KX G ?a ?_; (case a => k_is); intro c_MOST_SIGNS_words
    refine' Ak.then_str (x := "SMALL") (s := "abcdefghijklmnopqrstuvwxyz") KX G ?a ?_; (case a => k_is); intro c_SMALL
    refine' Ak.then_str (x := "GREAT") (s := "ABCDEFGHIJKLMNOPQRSTUVWXYZ") KX G ?a ?_; (case a => k_is); intro c_GREAT
    refine' Ak.then_str (x := "FIGURES") (s := "0123456789") KX G ?a ?_; (case a => k_is); intro c_FIGURES
    refine' Ak.then_tup (x := "SIGNS") (xs := [.str (Ak.tx (Ak.cs "+")), .str (Ak.tx (Ak.cs "-")), .str (Ak.tx (Ak.cs "*")), .str (Ak.tx (Ak.cs "<")), .str (Ak.tx (Ak.cs "="))]) KX G ?a ?l ?z ?v ?_
    (case a => k_is); (case l => k_is); (case z => decide); (case v => repeat (first | exact .nil | refine .cons Ak.rel_lit ?_)); intro a_SIGNS c_SIGNS t_SIGNS
    refine' Ak.then_tup (x := "RESERVED") (xs := [.str (Ak.tx (Ak.cs "ask")), .str (Ak.tx (Ak.cs "do")), .str (Ak.tx (Ak.cs "else")), .str (Ak.tx (Ak.cs "end")), .str (Ak.tx (Ak.cs "false")), .str (Ak.tx (Ak.cs "fn")), .str (Ak.tx (Ak.cs "fst")), .str (Ak.tx (Ak.cs "handle")), .str (Ak.tx (Ak.cs "if")), .str (Ak.tx (Ak.cs "in")), .str (Ak.tx (Ak.cs "let")), .str (Ak.tx (Ak.cs "match")), .str (Ak.tx (Ak.cs "module")), .str (Ak.tx (Ak.cs "rec")), .str (Ak.tx (Ak.cs "return")), .str (Ak.tx (Ak.cs "snd")), .str (Ak.tx (Ak.cs "then")), .str (Ak.tx (Ak.cs "true")), .str (Ak.tx (Ak.cs "use")), .str (Ak.tx (Ak.cs "with")), .str (Ak.tx (Ak.cs "int")), .str (Ak.tx (Ak.cs "bool")), .str (Ak.tx (Ak.cs "unit"))]) KX G ?a ?l ?z ?v ?_
    (case a => k_is); (case l => k_is); (case z => decide); (case v => repeat (first | exact .nil | refine .cons Ak.rel_lit ?_)); intro a_RESERVED c_RESERVED t_RESERVED
    refine' Ak.then_str (x := "INT") (s := "int") KX G ?a ?_; (case a => k_is); intro c_INT
    refine' Ak.then_str (x := "BOOL") (s := "bool") KX G ?a ?_; (case a => k_is); intro c_BOOL
    refine' Ak.then_str (x := "UNIT") (s := "unit") KX G ?a ?_; (case a => k_is); intro c_UNIT
    refine' Ak.then_str (x := "NIL") (s := "nil") KX G ?a ?_; (case a => k_is); intro c_NIL
    refine' Ak.then_str (x := "VAR") (s := "var") KX G ?a ?_; (case a => k_is); intro c_VAR
    refine' Ak.then_str (x := "FN") (s := "fn") KX G ?a ?_; (case a => k_is); intro c_FN
    refine' Ak.then_str (x := "CALL") (s := "call") KX G ?a ?_; (case a => k_is); intro c_CALL
    refine' Ak.then_str (x := "LET") (s := "let") KX G ?a ?_; (case a => k_is); intro c_LET
    refine' Ak.then_str (x := "REC") (s := "rec") KX G ?a ?_; (case a => k_is); intro c_REC
    refine' Ak.then_str (x := "IF") (s := "if") KX G ?a ?_; (case a => k_is); intro c_IF
    refine' Ak.then_str (x := "OP") (s := "op") KX G ?a ?_; (case a => k_is); intro c_OP
    refine' Ak.then_str (x := "PAIR") (s := "pair") KX G ?a ?_; (case a => k_is); intro c_PAIR
    refine' Ak.then_str (x := "FIRST") (s := "first") KX G ?a ?_; (case a => k_is); intro c_FIRST
    refine' Ak.then_str (x := "SECOND") (s := "second") KX G ?a ?_; (case a => k_is); intro c_SECOND
    refine' Ak.then_str (x := "CONS") (s := "cons") KX G ?a ?_; (case a => k_is); intro c_CONS
    refine' Ak.then_str (x := "MATCH") (s := "match") KX G ?a ?_; (case a => k_is); intro c_MATCH
    refine' Ak.then_str (x := "ASK") (s := "ask") KX G ?a ?_; (case a => k_is); intro c_ASK
    refine' Ak.then_str (x := "HANDLE") (s := "handle") KX G ?a ?_; (case a => k_is); intro c_HANDLE
    refine' Ak.then_int (x := "MOST_VALUE_NODES") (i := 20000) KX G ?a ?_; (case a => k_is); intro c_MOST_VALUE_NODES
    refine' Ak.then_int (x := "MOST_VALUE_DEEP") (i := 150) KX G ?a ?_; (case a => k_is); intro c_MOST_VALUE_DEEP
    refine' Ak.then_str (x := "BEGUN") (s := "begun") KX G ?a ?_; (case a => k_is); intro c_BEGUN
    refine' Ak.then_str (x := "ASKED") (s := "asked") KX G ?a ?_; (case a => k_is); intro c_ASKED
    refine' Ak.then_str (x := "ANSWERED") (s := "answered") KX G ?a ?_; (case a => k_is); intro c_ANSWERED
    refine' Ak.then_str (x := "KEPT") (s := "kept") KX G ?a ?_; (case a => k_is); intro c_KEPT
    refine' Ak.then_str (x := "ENDED") (s := "ended") KX G ?a ?_; (case a => k_is); intro c_ENDED
    refine' Ak.then_str (x := "FUN") (s := "fun") KX G ?a ?_; (case a => k_is); intro c_FUN
    refine' Ak.then_int (x := "UNDER") (i := 9973) KX G ?a ?_; (case a => k_is); intro c_UNDER
    refine' Ak.then_int (x := "MOST_SIGNS_journals") (i := 200000) KX G ?a ?_; (case a => k_is); intro c_MOST_SIGNS_journals
    refine' Ak.then_int (x := "MOST_DEEP") (i := 150) KX G ?a ?_; (case a => k_is); intro c_MOST_DEEP
    have T : K68.Tx _ mg := {
      f_is_integer := f_is_integer, fd_is_integer := fd_is_integer, d_is_integer := d_is_integer,
      f_is_count := f_is_count, fd_is_count := fd_is_count, d_is_count := d_is_count,
      f_is_row := f_is_row, fd_is_row := fd_is_row, d_is_row := d_is_row,
      f_is_int := f_is_int, fd_is_int := fd_is_int, d_is_int := d_is_int,
      f_has_signs := f_has_signs, fd_has_signs := fd_has_signs, d_has_signs := d_has_signs,
      f_is_name := f_is_name, fd_is_name := fd_is_name, d_is_name := d_is_name,
      f_is_ask_name := f_is_ask_name, fd_is_ask_name := fd_is_ask_name, d_is_ask_name := d_is_ask_name,
      f_is_sign := f_is_sign, fd_is_sign := fd_is_sign, d_is_sign := d_is_sign,
      f_are_two_names := f_are_two_names, fd_are_two_names := fd_are_two_names, d_are_two_names := d_are_two_names,
      f_are_clauses := f_are_clauses, fd_are_clauses := fd_are_clauses, d_are_clauses := d_are_clauses,
      f_is_node := f_is_node, fd_is_node := fd_is_node, d_is_node := d_is_node,
      f_children_of := f_children_of, fd_children_of := fd_children_of, d_children_of := d_children_of,
      f_is_within := f_is_within, fd_is_within := fd_is_within, d_is_within := d_is_within,
      f_is_data_of := f_is_data_of, fd_is_data_of := fd_is_data_of, d_is_data_of := d_is_data_of,
      f_is_telling_of := f_is_telling_of, fd_is_telling_of := fd_is_telling_of, d_is_telling_of := d_is_telling_of,
      f_word_of := f_word_of, fd_word_of := fd_word_of, d_word_of := d_word_of,
      f_int_from := f_int_from, fd_int_from := fd_int_from, d_int_from := d_int_from,
      f_telling_from := f_telling_from, fd_telling_from := fd_telling_from, d_telling_from := d_telling_from,
      f_telling_by := f_telling_by, fd_telling_by := fd_telling_by, d_telling_by := d_telling_by,
      f_is_record_of := f_is_record_of, fd_is_record_of := fd_is_record_of, d_is_record_of := d_is_record_of,
      f_is_number := f_is_number, fd_is_number := fd_is_number, d_is_number := d_is_number,
      f_follows := f_follows, fd_follows := fd_follows, d_follows := d_follows,
      f_are_records_of := f_are_records_of, fd_are_records_of := fd_are_records_of, d_are_records_of := d_are_records_of,
      f_sum_of_signs := f_sum_of_signs, fd_sum_of_signs := fd_sum_of_signs, d_sum_of_signs := d_sum_of_signs,
      f_parts_of := f_parts_of, fd_parts_of := fd_parts_of, d_parts_of := d_parts_of,
      f_line_of := f_line_of, fd_line_of := fd_line_of, d_line_of := d_line_of,
      f_number_by := f_number_by, fd_number_by := fd_number_by, d_number_by := d_number_by,
      f_record_by := f_record_by, fd_record_by := fd_record_by, d_record_by := d_record_by,
      f_record_in := f_record_in, fd_record_in := fd_record_in, d_record_in := d_record_in,
      f_journal_of := f_journal_of, fd_journal_of := fd_journal_of, d_journal_of := d_journal_of,
      f_read_of := f_read_of, fd_read_of := fd_read_of, d_read_of := d_read_of,
      f_want_journal := f_want_journal, fd_want_journal := fd_want_journal, d_want_journal := d_want_journal,
      f_are_records := f_are_records, fd_are_records := fd_are_records, d_are_records := d_are_records,
      f_sum_of := f_sum_of, fd_sum_of := fd_sum_of, d_sum_of := d_sum_of,
      f_record_line := f_record_line, fd_record_line := fd_record_line, d_record_line := d_record_line,
      f_journal_text := f_journal_text, fd_journal_text := fd_journal_text, d_journal_text := d_journal_text,
      f_read_journal := f_read_journal, fd_read_journal := fd_read_journal, d_read_journal := d_read_journal,
      f__law_pot := f__law_pot, fd__law_pot := fd__law_pot, d__law_pot := d__law_pot,
      f__law_draw := f__law_draw, fd__law_draw := fd__law_draw, d__law_draw := d__law_draw,
      f__law_pick := f__law_pick, fd__law_pick := fd__law_pick, d__law_pick := d__law_pick,
      f__law_data := f__law_data, fd__law_data := fd__law_data, d__law_data := d__law_data,
      f__law_records := f__law_records, fd__law_records := fd__law_records, d__law_records := d__law_records,
      f__law_is_right := f__law_is_right, fd__law_is_right := fd__law_is_right, d__law_is_right := d__law_is_right,
      f_law := f_law, fd_law := fd_law, d_law := d_law,
      n_abs := n_abs,
      n_all := n_all,
      n_bool := n_bool,
      n_divmod := n_divmod,
      n_enumerate := n_enumerate,
      n_int := n_int,
      n_isinstance := n_isinstance,
      n_len := n_len,
      n_list := n_list,
      n_max := n_max,
      n_min := n_min,
      n_ord := n_ord,
      n_range := n_range,
      n_set := n_set,
      n_sorted := n_sorted,
      n_str := n_str,
      n_tuple := n_tuple,
      c_LEAST_INT := c_LEAST_INT,
      c_MOST_INT := c_MOST_INT,
      c_MOST_SIGNS_words := c_MOST_SIGNS_words,
      c_SMALL := c_SMALL,
      c_GREAT := c_GREAT,
      c_FIGURES := c_FIGURES,
      a_SIGNS := a_SIGNS, c_SIGNS := c_SIGNS, t_SIGNS := t_SIGNS,
      a_RESERVED := a_RESERVED, c_RESERVED := c_RESERVED, t_RESERVED := t_RESERVED,
      c_INT := c_INT,
      c_BOOL := c_BOOL,
      c_UNIT := c_UNIT,
      c_NIL := c_NIL,
      c_VAR := c_VAR,
      c_FN := c_FN,
      c_CALL := c_CALL,
      c_LET := c_LET,
      c_REC := c_REC,
      c_IF := c_IF,
      c_OP := c_OP,
      c_PAIR := c_PAIR,
      c_FIRST := c_FIRST,
      c_SECOND := c_SECOND,
      c_CONS := c_CONS,
      c_MATCH := c_MATCH,
      c_ASK := c_ASK,
      c_HANDLE := c_HANDLE,
      c_MOST_VALUE_NODES := c_MOST_VALUE_NODES,
      c_MOST_VALUE_DEEP := c_MOST_VALUE_DEEP,
      c_BEGUN := c_BEGUN,
      c_ASKED := c_ASKED,
      c_ANSWERED := c_ANSWERED,
      c_KEPT := c_KEPT,
      c_ENDED := c_ENDED,
      c_FUN := c_FUN,
      c_UNDER := c_UNDER,
      c_MOST_SIGNS_journals := c_MOST_SIGNS_journals,
      c_MOST_DEEP := c_MOST_DEEP }
    refine' Ak.then_int (x := "MOST_COUNT") (i := 1000000000000) KX G ?a ?_; (case a => k_is); intro c_MOST_COUNT
    refine' K68.then_kd (w := w) (x := "PLAIN") (["t", "f", "u", "n", "F"].map Str.ofString) KX G ?a ?l ?z ?k ?_
    (case a => k_is); (case l => k_is); (case z => rfl); (case k => rfl); intro c_PLAIN k_PLAIN
    refine' K68.then_kat_tup (x := Str.ofString "t") k_PLAIN [.str (Ak.tx (Ak.cs "bool")), .bl true] ?e ?l ?z ?v ?_
    (case e => k_is); (case l => k_is); (case z => decide); (case v => exact .cons (Ak.rel_lit) (.cons (rfl) (.nil))); intro v_PLAIN_t t_PLAIN_t
    refine' K68.then_kat_tup (x := Str.ofString "f") k_PLAIN [.str (Ak.tx (Ak.cs "bool")), .bl false] ?e ?l ?z ?v ?_
    (case e => k_is); (case l => k_is); (case z => decide); (case v => exact .cons (Ak.rel_lit) (.cons (rfl) (.nil))); intro v_PLAIN_f t_PLAIN_f
    refine' K68.then_kat_tup (x := Str.ofString "u") k_PLAIN [.str (Ak.tx (Ak.cs "unit"))] ?e ?l ?z ?v ?_
    (case e => k_is); (case l => k_is); (case z => decide); (case v => exact .cons (Ak.rel_lit) (.nil)); intro v_PLAIN_u t_PLAIN_u
    refine' K68.then_kat_tup (x := Str.ofString "n") k_PLAIN [.str (Ak.tx (Ak.cs "nil"))] ?e ?l ?z ?v ?_
    (case e => k_is); (case l => k_is); (case z => decide); (case v => exact .cons (Ak.rel_lit) (.nil)); intro v_PLAIN_n t_PLAIN_n
    refine' K68.then_kat_tup (x := Str.ofString "F") k_PLAIN [.str (Ak.tx (Ak.cs "fun"))] ?e ?l ?z ?v ?_
    (case e => k_is); (case l => k_is); (case z => decide); (case v => exact .cons (Ak.rel_lit) (.nil)); intro v_PLAIN_F t_PLAIN_F
    refine' K68.then_kno (x := Str.ofString "i") k_PLAIN ?e ?_; (case e => k_is); intro n_PLAIN_i
    refine' K68.then_kno (x := Str.ofString "p") k_PLAIN ?e ?_; (case e => k_is); intro n_PLAIN_p
    refine' K68.then_kno (x := Str.ofString "c") k_PLAIN ?e ?_; (case e => k_is); intro n_PLAIN_c
    refine' K68.then_kd (w := w) (x := "DOUBLE") (["p", "c"].map Str.ofString) KX G ?a ?l ?z ?k ?_
    (case a => k_is); (case l => k_is); (case z => rfl); (case k => rfl); intro c_DOUBLE k_DOUBLE
    refine' K68.then_kat_str (x := Str.ofString "p") k_DOUBLE "pair" ?e ?_; (case e => k_is); intro v_DOUBLE_p
    refine' K68.then_kat_str (x := Str.ofString "c") k_DOUBLE "cons" ?e ?_; (case e => k_is); intro v_DOUBLE_c
    refine' K68.then_kd (w := w) (x := "LONG") (["int", "bool", "unit", "nil", "var", "fn", "call", "let", "rec", "if", "op", "pair", "first", "second", "cons", "match", "ask", "handle"].map Str.ofString) KX G ?a ?l ?z ?k ?_
    (case a => k_is); (case l => k_is); (case z => rfl); (case k => rfl); intro c_LONG k_LONG
    refine' K68.then_kat_int (x := Str.ofString "int") k_LONG (2) ?e ?_; (case e => k_is); intro v_LONG_int
    refine' K68.then_kat_int (x := Str.ofString "bool") k_LONG (2) ?e ?_; (case e => k_is); intro v_LONG_bool
    refine' K68.then_kat_int (x := Str.ofString "unit") k_LONG (1) ?e ?_; (case e => k_is); intro v_LONG_unit
    refine' K68.then_kat_int (x := Str.ofString "nil") k_LONG (1) ?e ?_; (case e => k_is); intro v_LONG_nil
    refine' K68.then_kat_int (x := Str.ofString "pair") k_LONG (3) ?e ?_; (case e => k_is); intro v_LONG_pair
    refine' K68.then_kat_int (x := Str.ofString "cons") k_LONG (3) ?e ?_; (case e => k_is); intro v_LONG_cons
    refine' K68.then_kd (w := w) (x := "CHILDREN") (["int", "bool", "unit", "nil", "var", "fn", "call", "let", "rec", "if", "op", "pair", "first", "second", "cons", "match", "ask"].map Str.ofString) KX G ?a ?l ?z ?k ?_
    (case a => k_is); (case l => k_is); (case z => rfl); (case k => rfl); intro c_CHILDREN k_CHILDREN
    refine' K68.then_kat_tup (x := Str.ofString "int") k_CHILDREN [] ?e ?l ?z ?v ?_
    (case e => k_is); (case l => k_is); (case z => decide); (case v => exact .nil); intro v_CHILDREN_int t_CHILDREN_int
    refine' K68.then_kat_tup (x := Str.ofString "bool") k_CHILDREN [] ?e ?l ?z ?v ?_
    (case e => k_is); (case l => k_is); (case z => decide); (case v => exact .nil); intro v_CHILDREN_bool t_CHILDREN_bool
    refine' K68.then_kat_tup (x := Str.ofString "unit") k_CHILDREN [] ?e ?l ?z ?v ?_
    (case e => k_is); (case l => k_is); (case z => decide); (case v => exact .nil); intro v_CHILDREN_unit t_CHILDREN_unit
    refine' K68.then_kat_tup (x := Str.ofString "nil") k_CHILDREN [] ?e ?l ?z ?v ?_
    (case e => k_is); (case l => k_is); (case z => decide); (case v => exact .nil); intro v_CHILDREN_nil t_CHILDREN_nil
    refine' K68.then_kat_tup (x := Str.ofString "pair") k_CHILDREN [.int 1, .int 2] ?e ?l ?z ?v ?_
    (case e => k_is); (case l => k_is); (case z => decide); (case v => exact .cons (⟨_, rfl⟩) (.cons (⟨_, rfl⟩) (.nil))); intro v_CHILDREN_pair t_CHILDREN_pair
    refine' K68.then_kat_tup (x := Str.ofString "cons") k_CHILDREN [.int 1, .int 2] ?e ?l ?z ?v ?_
    (case e => k_is); (case l => k_is); (case z => decide); (case v => exact .cons (⟨_, rfl⟩) (.cons (⟨_, rfl⟩) (.nil))); intro v_CHILDREN_cons t_CHILDREN_cons
    have D : K68.Td _ mg w := {
      c_MOST_COUNT := c_MOST_COUNT,
      a_PLAIN := _,
      c_PLAIN := c_PLAIN,
      k_PLAIN := k_PLAIN,
      a_PLAIN_t := _,
      v_PLAIN_t := v_PLAIN_t,
      t_PLAIN_t := t_PLAIN_t,
      a_PLAIN_f := _,
      v_PLAIN_f := v_PLAIN_f,
      t_PLAIN_f := t_PLAIN_f,
      a_PLAIN_u := _,
      v_PLAIN_u := v_PLAIN_u,
      t_PLAIN_u := t_PLAIN_u,
      a_PLAIN_n := _,
      v_PLAIN_n := v_PLAIN_n,
      t_PLAIN_n := t_PLAIN_n,
      a_PLAIN_F := _,
      v_PLAIN_F := v_PLAIN_F,
      t_PLAIN_F := t_PLAIN_F,
      n_PLAIN_i := n_PLAIN_i,
      n_PLAIN_p := n_PLAIN_p,
      n_PLAIN_c := n_PLAIN_c,
      a_DOUBLE := _,
      c_DOUBLE := c_DOUBLE,
      k_DOUBLE := k_DOUBLE,
      v_DOUBLE_p := v_DOUBLE_p,
      v_DOUBLE_c := v_DOUBLE_c,
      a_LONG := _,
      c_LONG := c_LONG,
      k_LONG := k_LONG,
      v_LONG_int := v_LONG_int,
      v_LONG_bool := v_LONG_bool,
      v_LONG_unit := v_LONG_unit,
      v_LONG_nil := v_LONG_nil,
      v_LONG_pair := v_LONG_pair,
      v_LONG_cons := v_LONG_cons,
      a_CHILDREN := _,
      c_CHILDREN := c_CHILDREN,
      k_CHILDREN := k_CHILDREN,
      a_CHILDREN_int := _,
      v_CHILDREN_int := v_CHILDREN_int,
      t_CHILDREN_int := t_CHILDREN_int,
      a_CHILDREN_bool := _,
      v_CHILDREN_bool := v_CHILDREN_bool,
      t_CHILDREN_bool := t_CHILDREN_bool,
      a_CHILDREN_unit := _,
      v_CHILDREN_unit := v_CHILDREN_unit,
      t_CHILDREN_unit := t_CHILDREN_unit,
      a_CHILDREN_nil := _,
      v_CHILDREN_nil := v_CHILDREN_nil,
      t_CHILDREN_nil := t_CHILDREN_nil,
      a_CHILDREN_pair := _,
      v_CHILDREN_pair := v_CHILDREN_pair,
      t_CHILDREN_pair := t_CHILDREN_pair,
      a_CHILDREN_cons := _,
      v_CHILDREN_cons := v_CHILDREN_cons,
      t_CHILDREN_cons := t_CHILDREN_cons }
    have e : fa = T.f_law := by
      have z := hmg.symm.trans T.d_law.g
      cases z
      rfl
    subst e
    exact ⟨T.fd_law, K68.law_binds T.d_law.F, fun base _ _ => Ak.Quiet.of (K68.ok_law T D)⟩
  case S =>
    intro K H a ns hl _ hS
    exact ⟨a, ns, rfl, hS, hl, fun _ => rfl⟩

