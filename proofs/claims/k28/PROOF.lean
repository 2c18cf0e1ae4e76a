import PyProof.Rows.All
import Wide.All
import OpenK.AllK
import Wide.FinOn
import PyProof.EqAt
import PyProof.EqKinds
import PyProof.TupleCall
import PyProof.ReprRoads
import KE.KLam
import KE.KFromBytes
import KE.KExcSuper
import KE.KExcIs
import HandS.Base
import HandS.Call
import HandS.List
import HandS.Comp
import HandS.Ends
import HandS.Text
import HandS.Exc
import HandS.ExcOwn
import HandS.ExcInit
import HandS.ExcValue
import HandS.ExcField
import HandS.Codes
import HandS.TryOnly
import HandS.Words
import HandS.WordsList
import HandS.WordsExc
import HandS.Defaults
import HandS.Lambda
import HandS.Nested
import HandS.IsInst
import KE.KDflt
import HandS.ExcSuper
import HandS.Flow
import HandS.TupAny
import HandS.More
import HandS.FStr
import HandS.Star
import HandS.Wide
import HandS.Iter
import HandS.CallLocal
import HandS.TupLe
import KE.KStateDown
import Lean
import HandS.Head0
import HandS.Head1
import HandS.Head2
import HandS.HeadEnd
import HandS.HeadHook1
import HandS.HeadHook2
import HandS.HeadHook3
import HandS.HeadHook4
import HandS.EndBits
import HandS.EndTab
import PySem.Challenge.RW_duetickers_k28_whole_puzzles_joined
set_option Elab.async false
set_option linter.all false
set_option maxRecDepth 100000
set_option maxHeartbeats 4000000
/-! Rules of our own over the hand layer, for this law. -/
namespace DtR
open PySem PySem.Spec PyProof.Rows L2
section
variable {X : Cx}
/-- True + True, as in counting truths -/
theorem op_add_bb : OpR X (binaryOp .Add) (fun x y H Q => ∃ i k, x = .bl i ∧ y = .bl k ∧ Q (.int (b2i i + b2i k)) H) := by
  intro pins s σ H x y v u Q I rx ry h
  obtain ⟨i, k, ex, ey, q⟩ := h
  subst ex ey
  cases rx
  cases ry
  exact add_bool ⟨.int (b2i i + b2i k), H, I.tok _, ⟨_, rfl⟩, q⟩
/-- repr(True) -/
def bText (b : Bool) : Str := if b then "True" else "False"
theorem cr_reprB : CallR X (.builtin "repr") (fun xs H Q => ∃ b, xs = [.bl b] ∧ Q (.str (bText b)) H) := by
  intro pins s σ H xs us Q I r h
  obtain ⟨b, ex, q⟩ := h
  subst ex
  cases r with
  | cons r1 rn =>
    cases rn
    cases r1
    refine PySem.P.repr_of_bool ⟨.str (bText b), H, I.tok _, ⟨s.toks, ?_⟩, q⟩
    cases b <;> rfl
/-- repr of a list of data, where nothing is being shown -/
theorem cr_reprD (hg : X.A.guards = some []) (hu : X.A.units + 64 < cLine) :
    CallR X (.builtin "repr") (fun xs H Q => ∃ a d, xs = [.ref a] ∧ Dp X.K H (.ref a) d ∧ d.showable = true ∧ d.hasDict = false ∧ d.depth ≤ 20 ∧ d.shown.length ≤ sizeLine ∧ Q (.str d.shown) H) := by
  intro pins s σ H xs us Q I r h
  obtain ⟨a, d, ex, hd, h1, h2, h3, h4, q⟩ := h
  subst ex
  cases r with
  | cons r1 rn =>
    cases rn
    cases r1
    obtain ⟨as, rd⟩ := Dp.reads I d _ _ hd rfl
    refine PySem.repr_of_reads' rd h1 (fun z => ?_) hg (by omega) (fun _ _ e => e) (fun h' u tk k => ⟨.str d.shown, H, I.kept k, ⟨_, rfl⟩, q⟩) h4
    rw [h2] at z
    cases z
end

/-! ### keywords alone -/
section
variable {X : Cx} {CX : CXT} {k : Nat} {f : Addr} {fd : FuncData} {ps ks : List Str} {sp : Sp} {E : XK} {x : Str} {p pos : Pos} {kws : List Keyword} {tk : TA} {g : List Value → List Value → List Value} {gV : List V → List V → List V}
/-- f(k = v, ..) -/
theorem pe_callN0 (F : FnOk X.prog X.w X.K X.mg X.base CX k f fd ps sp) (hr : Room k X.A) (hg : Gl X x) (hm : X.mg x = some (.ref f)) (hk : PySem.W.keepIn X.K (.ref f) = true)
    (hb : KBn X.K fd ps 0 ks g gV) (hx : Passes CX X E) (hkw : PK X kws tk)
    (hall : (backToKw pos (keywordEach kws X.env)).all (·.1.isSome) = true := by rfl)
    (hks : (backToKw pos (keywordEach kws X.env)).filterMap (·.1) = ks := by rfl)
    (hdb : (x == ("__debug__" : Str)) = false := by decide)
    (hpl : ((backTo pos (starEach [] X.env)).any (·.1) || (backToKw pos (keywordEach kws X.env)).any (·.1.isNone)) = false := by rfl) :
    PE X (.Call (.Name x p) [] kws pos) (tCallN 0 ks.length sp gV E tNil tk) := by
  refine ⟨fun pins s σ H Q I h => ?_⟩
  refine wpAny_Call_Name_kw (ld_glob I hg hm ?_ hdb)
  refine PySem.W.callWith_KW0 (h₀ := X.base) I.ok.mod.kin hk hall ?_ hpl
  refine thn (hkw.run pos pins s σ H _ I h) fun ws s2 hh => ?_
  obtain ⟨zs, H2, I2, rz, l1, l2, q2⟩ := hh
  refine ⟨I2.kIn, ?_⟩
  rw [hks]
  exact run_fnN F hr hb hx I2 .nil rz l1 l2 q2
end

/-! ### a def whose body is told for just this caller -/
section
variable {X : Cx} {CX : CXT} {k : Nat} {f : Addr} {N ps : List Str} {sp : Sp} {E : XK} {x name qual : Str} {p pos : Pos} {e : Expr} {es : List Expr} {t : TA}
  {params : Arguments} {body : List Stmt} {scope : Scope} {dV kV doc pm cdv ct oc : Value} {an od : Option Addr} {osl : Array (Option Value)}
theorem pe_callQ (lk : X.K.lookup f = some ⟨oc, od, .func (PySem.W.fnOf name qual params body scope dV kV doc pm an cdv ct), osl⟩) (hcd : PySem.W.codeIn X.K cdv qual = true)
    (S : FnScope N ps scope) (hr : Room (k + 1) X.A) (hg : Gl X x) (hm : X.mg x = some (.ref f)) (hk : PySem.W.keepIn X.K (.ref f) = true)
    (hb : Binds X.K (PySem.W.fnOf name qual params body scope dV kV doc pm an cdv ct) ps []) (hx : Passes CX X E) (len : ∀ vs H Q E, sp vs H Q E → vs.length = ps.length)
    (hbody : ∀ (s : Shared) (H : Hp) (vs : List V) (Q : VK), Room k (X.A.deeper (envOfC qual scope s.heap.objs.size f cdv)) → sp vs H Q E →
      ∃ t, PSs (cxOf CX X.prog X.w X.K X.mg X.base N qual scope f cdv X.A X.stack s H E) body t ∧ t { nx := fun _ H' => Q .non H', rt := Q } (L2.start N vs) H)
    (ha : PA X (e :: es) t) (hdb : (x == ("__debug__" : Str)) = false := by decide) (he : starEach (e :: es) X.env = (false, eval e X.env) :: starEach es X.env := by rfl)
    (hpl : (backTo pos (starEach es X.env)).any (·.1) = false := by rfl) :
    PE X (.Call (.Name x p) (e :: es) [] pos) (tCall sp [] E t) := by
  refine ⟨fun pins s σ H Q I h => ?_⟩
  refine wpAny_Call_Name_kw (ld_glob I hg hm ?_ hdb)
  refine PySem.W.callWith_K (h₀ := X.base) I.ok.mod.kin hk (thn (ha.run pos pins s σ H _ I h) fun us s1 hh => ?_) he hpl
  obtain ⟨vs, H1, I1, r, q⟩ := hh
  rw [List.append_nil] at q
  refine ⟨I1.kIn, ?_⟩
  have hl := len _ _ _ _ q
  have b := hb s1 us I1.kIn (by rw [List.append_nil, ← r.length, hl])
  rw [List.append_nil] at b
  show wpAny _ _ (call (.ref f) us) _ _ _
  refine wpAny_call (codeAny_mono (LamX.run_ofS (CX := CX) (N := N) (E := E) lk hcd S hr I1.env0 b r hl fun hr' => hbody s1 H1 vs Q hr' q) fun r s' hq => ?_)
  cases r with
  | error er => exact hx pins σ H1 s1 er s' I1 hq
  | ok fl =>
    cases fl with
    | ret u => exact I1.after hq
    | next => exact False.elim hq
    | brk => exact False.elim hq
    | cont => exact False.elim hq
end
end DtR

set_option Elab.async false
set_option linter.all false
set_option maxRecDepth 100000
set_option maxHeartbeats 2000000
/-! DtLam: x(lambda v=c: body), a lambda with a default that nobody reads, handed to a def. The parts: the table that tells of one more code object; the making; the body's start; the lambda's own call; the call that hands it over. -/
namespace DtR
open PySem PySem.Spec PyProof.Rows L2 LamX
/-! ### the names -/
/-- what a name of the lambda may be: no cell; a parameter only if the maker N does not tell it; a captured one if sc holds it -/
def lamName (sc : Scope) (N : List Str) (y : Str × NameKind) : Bool :=
  match y.2 with
  | .cell => false
  | .local => decide (y.1 ∉ N)
  | .free => decide (sc.names.lookup y.1 = some .cell ∨ sc.names.lookup y.1 = some .free)
  | _ => true
structure LamD (sc scope : Scope) (N : List Str) : Prop where
  fn : scope.kind = .function ∧ scope.isCoroutine = false ∧ scope.isGenerator = false
  names : ∀ y ∈ scope.names, lamName sc N y = true
theorem lamD_by {sc scope : Scope} {N : List Str} (h : (scope.kind = .function ∧ scope.isCoroutine = false ∧ scope.isGenerator = false) ∧ scope.names.all (lamName sc N) = true) : LamD sc scope N :=
  ⟨h.1, List.all_eq_true.mp h.2⟩
section
variable {sc scope : Scope} {N : List Str} {y : Str}
theorem LamD.free (L : LamD sc scope N) (m : (y, NameKind.free) ∈ scope.names) : sc.names.lookup y = some .cell ∨ sc.names.lookup y = some .free := of_decide_eq_true (L.names _ m)
theorem LamD.nocell (L : LamD sc scope N) (m : (y, NameKind.cell) ∈ scope.names) : False := nomatch L.names _ m
theorem LamD.param (L : LamD sc scope N) (m : (y, NameKind.local) ∈ scope.names) : y ∉ N := of_decide_eq_true (L.names _ m)
/-- a name that the maker tells and the lambda sees is captured -/
theorem LamD.sees (L : LamD sc scope N) (hN : y ∈ N) (v : Vis scope y) : scope.names.lookup y = some .free :=
  match v with
  | .inl k => absurd hN (L.param (PySem.mem_of_lookup k))
  | .inr (.inl k) => False.elim (L.nocell (PySem.mem_of_lookup k))
  | .inr (.inr k) => k
theorem LamD.has {X : Cx} (L : LamD X.env.scope scope N) (ok : X.Ok) : ∀ y ∈ scope.names, y.2 = .free → ∃ c, X.env.cells.lookup y.1 = some c := fun ⟨n, k⟩ m e => by
  obtain rfl : k = .free := e
  exact ok.has n (L.free m)
end
/-! ### the captured cells -/
section
variable {cells : List (Str × Addr)} {names : List (Str × NameKind)} {y : Str} {c : Addr}
theorem clo_down (has : ∀ z ∈ names, z.2 = .free → ∃ c, cells.lookup z.1 = some c) (e : (cloFrom cells names []).lookup y = some c) : cells.lookup y = some c := by
  obtain ⟨m, r⟩ := (cloFrom_mem (PySem.mem_of_lookup e)).resolve_left List.not_mem_nil
  obtain ⟨d, hd⟩ := has _ m rfl
  simp only at hd
  rw [r, hd]
  rfl
theorem clo_up (e : names.lookup y = some .free) : ∃ c, (cloFrom cells names []).lookup y = some c := mem_lookup (cloFrom_has (PySem.mem_of_lookup e))
end
/-! ### one more code object in the table -/
/-- the ledger behind it: c' is a code object of the name q, the table at P tells it at pos -/
abbrev noted (H : Hp) (P : Addr) (ps : Array Value) (pos : Pos) (c' : Addr) (q : Str) : Hp := upd (upd H P (.tbl (ps ++ #[rawInt pos.line, rawInt pos.col, .ref c']))) c' (CodeO c' q)
section
variable {T : List (Addr × Str)} {H : Hp} {P c' b : Addr} {ps : Array Value} {pos : Pos} {q : Str}
theorem noted_off (h1 : b ≠ c') (h2 : b ≠ P) : noted H P ps pos c' q b = H b := (upd_ne h1).trans (upd_ne h2)
theorem noted_tbl (hP : H P = some (.tbl ps)) (n : H c' = none) : noted H P ps pos c' q P = some (.tbl (ps ++ #[rawInt pos.line, rawInt pos.col, .ref c'])) := (upd_ne (ne_of_none hP n)).trans upd_same
theorem noted_ext (hP : H P = some (.tbl ps)) (n : H c' = none) : ExtN H (noted H P ps pos c' q) := fun b o e nt =>
  (noted_off (ne_of_none e n) fun z => nt ps (Option.some.inj (e.symm.trans (z ▸ hP)))).trans e
theorem noted_tabs (hT : Tabs T H) (hP : H P = some (.tbl ps)) (n : H c' = none) (hu : ∀ p ∈ T, p.1 = P → p.2 = q) : Tabs T (noted H P ps pos c' q) := fun p hp => by
  obtain ⟨us, at_, tri, codes⟩ := hT p hp
  have kept : ∀ {pos' : Pos} {cv : Value}, codeAmong pos' us.toList = some cv → ∃ c, cv = .ref c ∧ noted H P ps pos c' q c = some (CodeO c p.2) := fun f =>
    (codes _ _ f).imp fun c z => ⟨z.1, noted_ext hP n c _ z.2 codeO_ne⟩
  by_cases e : p.1 = P
  · have eq : us = ps := HO.tbl.inj (Option.some.inj (at_.symm.trans (e ▸ hP)))
    subst eq
    have l3 : (us ++ #[rawInt pos.line, rawInt pos.col, .ref c']).toList = us.toList ++ [rawInt pos.line, rawInt pos.col, .ref c'] := Array.toList_append
    refine ⟨_, by rw [e]; exact noted_tbl hP n, l3 ▸ PySem.TriplesOk_snoc _ _ _ _ tri, fun pos' cv f => (among_app _ tri (l3 ▸ f)).elim kept fun z => ⟨c', z, ?_⟩⟩
    rw [hu p hp e]
    exact upd_same
  · exact ⟨us, (noted_off (ne_of_none at_ n) e).trans at_, tri, fun _ _ f => kept f⟩
end
/-! ### the making -/
section
variable {X : Cx} {pins : List (Addr × Obj)} {σ : L2.St} {H : Hp} {s : Shared}
theorem fresh_off (I : Inv X pins σ H s) {b : Addr} (n : s.heap.objs.size ≤ b) : b ∉ frs X.stack := fun m =>
  (List.mem_cons.mp (I.stkSub b m)).elim (fun e => absurd I.lt (Nat.not_lt.mpr (e ▸ n))) (I.nofs n)
/-- what stands behind the making: the function at f, its code object at c'; nothing else is lost -/
structure Made (X : Cx) (pins : List (Addr × Obj)) (σ : L2.St) (H : Hp) (s : Shared) (T : List (Addr × Str)) (fo : Value → Value → Addr → Value → Obj) (f c' : Addr) (H1 : Hp) (s' : Shared) : Prop where
  inv : Inv X pins σ H1 s'
  ext : ExtN H H1
  tabs : Tabs T H1
  obj : ∃ doc pm ctv, s'.heap.get? f = some (fo doc pm c' ctv)
  new : H1 f = none ∧ f ∉ frs X.stack
  code : H1 c' = some (CodeO c' (X.env.qual ++ "<lambda>"))
  rest : ∀ b o, s.heap.get? b = some o → H b = none → s'.heap.get? b = some o ∧ H1 b = none
theorem lam_tail {T : List (Addr × Str)} {c P : Addr} {params : Arguments} {body : Expr} {scope : Scope} {pos : Pos} {ln : Nat} {dV : Value} {E : Value → Shared → Prop} {Q : Value → Shared → Prop} (I : Inv X pins σ H s) (TB : TabB X.base X.mg c P) (hcode : X.env.code = .ref c)
    (hm : (P, X.env.qual ++ "<lambda>") ∈ T) (hu : ∀ p ∈ T, p.1 = P → p.2 = X.env.qual ++ "<lambda>") (hT : Tabs T H) (hfree : ∀ y ∈ scope.names, y.2 = .free → ∃ c, X.env.cells.lookup y.1 = some c)
    (h : ∀ (f c' : Addr) (H1 : Hp) (s' : Shared), Made X pins σ H s T (PySem.W.kdv_obj "<lambda>" (X.env.qual ++ "<lambda>") params (.expr body) scope (cloFrom X.env.cells scope.names []) dV) f c' H1 s' → Q (.ref f) s') :
    wpAny (model X.prog X.w) X.A (makeTail "<lambda>" (X.env.qual ++ "<lambda>") params (.expr body) scope X.env dV .none none pos ln) Q E s := by
  obtain ⟨ps, hP, tri, codes⟩ := hT _ hm
  have atP := I.hok P _ hP
  have gl := I.mod.glob.keeps I.bk
  have cd := TB.code.keeps I.bk
  have bl := TB.bm.keeps I.bk
  match f : codeAmong pos ps.toList with
  | some cv =>
    obtain ⟨c', rfl, hco⟩ := codes pos cv f
    refine PySem.W.kdv_makeTailHit (closure_ok hfree) I.ok.glob gl hcode cd atP tri f bl fun ctv doc h' tk hx big => h _ c' H _ ?_
    have stays : ∀ {b o}, s.heap.get? b = some o → (h'.push (PySem.W.kdv_obj "<lambda>" (X.env.qual ++ "<lambda>") params (.expr body) scope (cloFrom X.env.cells scope.names []) dV doc ((X.mg "__name__").getD .none) c' ctv)).get? b = some o := fun e => Heap.get?_push_of_some _ (hx _ _ e)
    exact { inv := I.kept fun _ _ e => stays e, ext := .refl H, tabs := hT, obj := ⟨_, _, _, Heap.get?_push_size _ rfl⟩, new := ⟨I.hok.fresh big, fresh_off I big⟩, code := hco, rest := fun _ _ e n => ⟨stays e, n⟩ }
  | none =>
    refine PySem.W.kdv_makeTail (closure_ok hfree) I.ok.glob gl hcode cd atP tri f TB.gP bl fun c' ctv doc h' tk hx ge lt rec tb => h _ c' (noted H P ps pos c' (X.env.qual ++ "<lambda>")) _ ?_
    obtain ⟨_, oc, vs, t, ec, hoc, hd, hv⟩ := rec
    obtain rfl := Value.ref.inj ec
    have free : H c' = none := I.hok.fresh ge
    have big : s.heap.objs.size ≤ h'.objs.size := Nat.le_trans ge (Nat.le_of_lt lt)
    have stays : ∀ {b o}, b ≠ P → s.heap.get? b = some o → (h'.push (PySem.W.kdv_obj "<lambda>" (X.env.qual ++ "<lambda>") params (.expr body) scope (cloFrom X.env.cells scope.names []) dV doc ((X.mg "__name__").getD .none) c' ctv)).get? b = some o := fun ne e => Heap.get?_push_of_some _ (hx _ _ ne e)
    have noP : ∀ {b}, H b = none → b ≠ P := fun n z => nomatch (z ▸ n).symm.trans hP
    exact {
      inv := inv_table I hP (fun _ _ => stays) (Heap.get?_push_of_some _ tb) ge ⟨oc, vs, t, Heap.get?_push_of_some _ hoc, hd, hv⟩
      ext := noted_ext hP free
      tabs := noted_tabs hT hP free hu
      obj := ⟨_, _, _, Heap.get?_push_size _ rfl⟩
      new := ⟨(noted_off (Nat.ne_of_gt lt) (noP (I.hok.fresh big))).trans (I.hok.fresh big), fresh_off I big⟩
      code := upd_same
      rest := fun b o e n => ⟨stays (noP n) e, (noted_off (fun z => absurd (Heap.lt_size e) (Nat.not_lt.mpr (by rw [z]; exact ge))) (noP n)).trans n⟩ }
/-- a lambda at f whose one default stands in the tuple at tp, neither of them tracked or a frame -/
structure LamAt (X : Cx) (H : Hp) (h : Heap) (params : Arguments) (body : Expr) (scope : Scope) (f c' tp : Addr) (v doc pm ctv : Value) : Prop where
  obj : h.get? f = some (PySem.W.kdv_obj "<lambda>" (X.env.qual ++ "<lambda>") params (.expr body) scope (cloFrom X.env.cells scope.names []) (.ref tp) doc pm c' ctv)
  tup : h.get? tp = some (PySem.W.kdv_tup [v])
  offF : H f = none ∧ f ∉ frs X.stack
  offT : H tp = none ∧ tp ∉ frs X.stack
theorem lam_makeD {T : List (Addr × Str)} {c P : Addr} {params : Arguments} {body : Expr} {scope : Scope} {pos : Pos} {E : Value → Shared → Prop} {Q : Value → Shared → Prop} (I : Inv X pins σ H s) (TB : TabB X.base X.mg c P) (hcode : X.env.code = .ref c)
    (hm : (P, X.env.qual ++ "<lambda>") ∈ T) (hu : ∀ p ∈ T, p.1 = P → p.2 = X.env.qual ++ "<lambda>") (hT : Tabs T H) {d : Expr} (hd : params.defaults = [d]) (hc0 : d.isPlainConst = true) (hk0 : params.kw_defaults = []) (hfree : ∀ y ∈ scope.names, y.2 = .free → ∃ c, X.env.cells.lookup y.1 = some c)
    (h : ∀ (f c' tp : Addr) (v doc pm ctv : Value) (H1 : Hp) (s' : Shared), Inv X pins σ H1 s' → ExtN H H1 → Tabs T H1 → LamAt X H1 s'.heap params body scope f c' tp v doc pm ctv → H1 c' = some (CodeO c' (X.env.qual ++ "<lambda>")) → Q (.ref f) s') :
    wpAny (model X.prog X.w) X.A (eval (.Lambda params body scope pos) X.env) Q E s := by
  refine PySem.W.kdv_lam (by rw [hd]; rfl) hk0 (hd ▸ wpAny_evalAll_consts [d] s _ (fun e he => List.mem_singleton.mp he ▸ hc0) fun vs tk hvs => ?_)
  match vs, hvs with
  | [v], _ =>
    show wpAny _ _ (makeFunction "<lambda>" (X.env.qual ++ "<lambda>") params (.expr body) scope X.env [v] [] [] pos pos.line) _ _ _
    rw [makeFunction_eq]
    simp only [List.zip_nil_right, List.filterMap_nil, List.isEmpty_nil, List.isEmpty_cons, if_true, pure_bind, Bool.false_eq_true, if_false]
    refine wpAny_bind (wpAny_newTextTuple ?_)
    have I0 : Inv X pins σ H { s with toks := tk, heap := s.heap.push (PySem.W.kdv_tup [v]) } := I.kept fun _ _ e => Heap.get?_push_of_some _ e
    refine lam_tail I0 TB hcode hm hu hT hfree fun f c' H1 s' M => ?_
    obtain ⟨doc, pm, ctv, ho⟩ := M.obj
    have tp := M.rest s.heap.objs.size _ (Heap.get?_push_size _ rfl) (I.hok.fresh (Nat.le_refl _))
    exact h f c' _ v doc pm ctv H1 s' M.inv M.ext M.tabs ⟨ho, tp.1, M.new, tp.2, fresh_off I (Nat.le_refl _)⟩ M.code
end
/-! ### the body's start -/
section
variable {X : Cx} {pins : List (Addr × Obj)} {σ : L2.St} {H HZ : Hp} {s s1 : Shared}
theorem lam_startD {A : Around} {outer : List Env} {E : XK} {scope : Scope} {f c' : Addr} {h₁ : Heap} {tk : Nat} {bs : List (Str × Value)} (I : Inv X pins σ H s) (L : LamD X.env.scope scope X.N) (e0 : Env0 X.prog X.w X.K X.mg X.base A outer s1 HZ) (hd : A.handled = none)
    (un : Un (frs X.stack) [] H HZ s.heap s1.heap) (hns : h₁.Ns s1.heap.objs.size fun y => bs.reverse.lookup y) (kp : ∀ b o, s1.heap.get? b = some o → h₁.get? b = some o) :
    Inv (lamCx X A outer s1 HZ E scope f c') [] σ HZ { s1 with heap := h₁, toks := tk } := by
  have down : ∀ {y c}, (cloFrom X.env.cells scope.names []).lookup y = some c → X.env.cells.lookup y = some c := fun e => clo_down (L.has I.ok) e
  have still : ∀ {y c v}, X.env.cells.lookup y = some c → s.heap.IsCell c v → h₁.IsCell c v := fun {y c v} e ⟨o, ho, hv⟩ =>
    let ⟨_, q⟩ := un.any ho (I.freeC y c e) List.not_mem_nil
    ⟨_, kp _ _ q, hv⟩
  exact {
    ok := {
      mod := e0.mod, kind := L.fn.1, glob := rfl, blt := rfl, above := Nat.le_refl _
      inj := fun y z c p q => I.ok.inj y z c (down p) (down q)
      has := fun y k => Or.elim k (fun k => False.elim (L.nocell (PySem.mem_of_lookup k))) clo_up
      cab := fun _ _ z => nomatch (show false = true from z)
      hd := fun _ => hd
      frames := Around.frames_deeper e0.frames
      stk := .inr ⟨rfl, rfl⟩
      exf := fun _ m => absurd m List.not_mem_nil
      bs := e0.bs, bsz := e0.bsz
      noex := fun _ _ _ => List.not_mem_nil
      exfs := fun _ m => absurd m List.not_mem_nil
      funs := e0.funs, frf := e0.frf }
    os := rfl
    bare := e0.bare
    base := .kept kp
    loc := ⟨_, hns, fun i y v hy hv vis => by
      have fr := L.sees (List.mem_of_getElem? hy) vis
      have up := L.free (PySem.mem_of_lookup fr)
      obtain ⟨c, hc⟩ := clo_up (cells := X.env.cells) fr
      obtain ⟨_, _, all⟩ := I.loc
      obtain ⟨u, rel, lk⟩ := all i y v hy hv (.inr up)
      refine ⟨u, rel, .inr ⟨.inr fr, c, hc, still (down hc) ?_⟩⟩
      match lk with
      | .inl z => exact absurd z.1 (by rw [show X.env.kindOf y = X.env.scope.names.lookup y from rfl]; rcases up with k | k <;> rw [k] <;> nofun)
      | .inr ⟨_, d, hd, cell⟩ => exact Option.some.inj (hd.symm.trans (down hc)) ▸ cell⟩
    cell := fun y c e => (I.cell y c (down e)).imp fun _ z => still (down e) z
    free := e0.hok.fresh (Nat.le_refl _)
    freeC := fun y c e => let ⟨_, o, ho, _⟩ := I.cell y c (down e); un.free c o ho (I.freeC y c (down e)) List.not_mem_nil
    pin := fun _ m => absurd m List.not_mem_nil
    hok := e0.hok.kept kp
    len := I.len }
end
/-! ### the calls -/
/-- a call that ends as CR tells, as a step of the def Y -/
theorem call_ends {Y : Cx} {pins : List (Addr × Obj)} {σ : L2.St} {H : Hp} {s : Shared} {C : CXT} {E : XK} {Q : VK} {v : Value} {us : List Value} (I : Inv Y pins σ H s) (hx : ∀ e s', C Y.stack H s E e s' → Y.xe e s')
    (rc : codeAny (model Y.prog Y.w) Y.A (.call v ⟨us, []⟩) (CR C Y.stack Y.prog Y.w H s Q E) s) : wpAny (model Y.prog Y.w) Y.A (call v us) (EP Y pins σ Q) Y.xe s :=
  wpAny_call (codeAny_mono rc fun r s' z => match r, z with
    | .ok (.ret _), z => I.after z
    | .error _, z => hx _ _ z)
section
variable {X : Cx} {pins : List (Addr × Obj)} {σ : L2.St} {H HZ : Hp} {s s1 : Shared}
/-- the lambda itself, called from the state s1 of the def that got it -/
theorem lam_runs {A : Around} {outer : List Env} {E : XK} {Q : VK} {params : Arguments} {body : Expr} {scope : Scope} {k : Nat} {f c' tp : Addr} {v doc pm ctv : Value} {an : Str} {tb : TE} (I : Inv X pins σ H s) (L : LamD X.env.scope scope X.N) (M : LamAt X H s.heap params body scope f c' tp v doc pm ctv)
    (un : Un (frs X.stack) [] H HZ s.heap s1.heap) (e0 : Env0 X.prog X.w X.K X.mg X.base A outer s1 HZ) (hc : HZ c' = some (CodeO c' (X.env.qual ++ "<lambda>"))) (hr : Room (k + 1) A) (han : scope.names.lookup an = some .local)
    (hbind : ∃ kk, bindArgs (PySem.W.kdv_fn "<lambda>" (X.env.qual ++ "<lambda>") params (.expr body) scope (cloFrom X.env.cells scope.names []) (.ref tp) doc pm (.ref c') ctv) ⟨[], []⟩ = seqItems? (.ref tp) >>= kk ∧ kk (some #[v]) = pure [(an, v)])
    (hbody : Room k (A.deeper (lamEnv X scope s1.heap.objs.size f c')) → PE (lamCx X A outer s1 HZ E scope f c') body tb) (ht : tb σ HZ Q) :
    codeAny (model X.prog X.w) A (.call (.ref f) ⟨[], []⟩) (CR (L2.CX X.prog X.w) outer X.prog X.w HZ s1 Q E) s1 := by
  obtain ⟨kk, b1, b2⟩ := hbind
  obtain ⟨oc, vs, t, rec⟩ := (e0.hok c' _ hc).1
  have obj := un.keep f _ M.obj M.offF.1 M.offF.2 List.not_mem_nil
  have tup := un.keep tp _ M.tup M.offT.1 M.offT.2 List.not_mem_nil
  have lim : s1.heap.NoLimit := e0.mod.nolimit.keeps fun b o e => (e0.bs b o e).1
  refine PySem.W.kla_callFunE hr.depth obj rfl L.fn.2.1 L.fn.2.2 rfl ⟨c', oc, vs, t, rfl, rec⟩ (BindsTo.of_defaults (T := tp) rfl tup rfl b1 b2 _ _ _ _ ?_)
  refine wpAny_newFunctionEnv (fun ⟨y, kd⟩ m e => L.nocell (y := y) ((show kd = .cell from e) ▸ m)) (fun y m => List.mem_singleton.mp m ▸ han) (fun h₁ ns sb => ⟨lim.fresh _ sb, ?_⟩) L.fn.1
  have kp : ∀ b o, s1.heap.get? b = some o → h₁.get? b = some o := fun b o e => sb.extBut b o (Nat.ne_of_lt (Heap.lt_size e)) (Heap.get?_push_of_some _ e)
  refine PySem.W.kla_codeExpr (wpAny_mono ((hbody (hr.deeper _)).run [] _ σ HZ Q (lam_startD I L e0 hr.hd un ns kp) ht) (fun u s' z => ?_) fun _ _ z => z)
  obtain ⟨w, H', J, rel, q⟩ := z
  exact ⟨w, H', J.os, J.bare, J.base, J.hok, rel, q⟩
end
/-- x(lambda v=c: body) -/
theorem pe_lamcallD {X : Cx} {T : List (Addr × Str)} {TT : (XK → Hp → VK → Prop) → Hp → VK → Prop} {x a an : Str} {g c P : Addr} {k : Nat} {pg : Arguments} {bg : List Stmt} {sg : Scope} {dV kV doc pm cdv ct oc : Value} {ann od : Option Addr} {osl : Array (Option Value)} {Ng : List Str}
    {params : Arguments} {body d : Expr} {scope : Scope} {t : XK → TE} {p lpos pos : Pos} (hg : Gl X x) (hm : X.mg x = some (.ref g)) (hk : PySem.W.keepIn X.K (.ref g) = true)
    (lk : X.K.lookup g = some ⟨oc, od, .func (PySem.W.fnOf x x pg bg sg dV kV doc pm ann cdv ct), osl⟩) (hcg : PySem.W.codeIn X.K cdv x = true) (hb : L2.Binds X.K (PySem.W.fnOf x x pg bg sg dV kV doc pm ann cdv ct) [a] []) (Sg : FnScope Ng [a] sg) (hNg : Ng[0]? = some a) (hva : Vis sg a)
    (hG : GivesTo X Ng x sg g cdv bg a (X.env.qual ++ "<lambda>") TT) (TB : TabB X.base X.mg c P) (hcode : X.env.code = .ref c)
    (hmT : (P, X.env.qual ++ "<lambda>") ∈ T) (hu : ∀ p ∈ T, p.1 = P → p.2 = X.env.qual ++ "<lambda>") (hr : Room (k + 2) X.A) (L : LamD X.env.scope scope X.N)
    (hdf : params.defaults = [d]) (hc0 : d.isPlainConst = true) (hk0 : params.kw_defaults = []) (han : scope.names.lookup an = some .local)
    (hbind : ∀ (q : Str) (cl : List (Str × Addr)) (tp : Addr) (doc pm cv ctv vd : Value), ∃ kk, bindArgs (PySem.W.kdv_fn "<lambda>" q params (.expr body) scope cl (.ref tp) doc pm cv ctv) ⟨[], []⟩ = seqItems? (.ref tp) >>= kk ∧ kk (some #[vd]) = pure [(an, vd)])
    (hbody : ∀ (A : Around) (outer : List Env) (s : Shared) (H : Hp) (E : XK) (f c' : Addr), Room k (A.deeper (lamEnv X scope s.heap.objs.size f c')) → PE (lamCx X A outer s H E scope f c') body (t E))
    (hdb : (x == ("__debug__" : Str)) = false := by decide) (hd : (a == ("__debug__" : Str)) = false := by decide) (hcd : (a == ("__classdict__" : Str)) = false := by decide) :
    PE X (.Call (.Name x p) [.Lambda params body scope lpos] [] pos) (tLam T TT t) := .mk fun pins s σ H Q I ⟨hT, h⟩ => by
  refine wpAny_Call_Name_kw (ld_glob I hg hm (PySem.W.callWith_K (h₀ := X.base) I.ok.mod.kin hk ?_ (by rfl) (by rfl)) hdb)
  refine Calls.spliced_cons (lam_makeD I TB hcode hmT hu hT hdf hc0 hk0 (L.has I.ok) fun f c' tp v dc pm' ctv H1 s' I1 eN T1 M hco => Calls.spliced_nil ⟨I1.kIn, ?_⟩)
  refine call_ends (us := [.ref f]) (C := C8.CX0) (E := C8.E0) I1 (fun _ _ z => False.elim z) (run_ofS (N := Ng) (ps := [a]) (us := [.ref f]) (vs := [.ref f]) lk hcg Sg hr I1.env0 (hb s' [.ref f] I1.kIn rfl) (.cons rfl .nil) rfl fun hr' => ?_)
  -- within the def that got it, its own call is the lambda's body
  obtain ⟨t', pt, qt⟩ := hG f c' s' H1 Q (fun E H' Q' => t E σ H' Q') (fun W pn xe E p1 p2 tk hW => ⟨fun pinsZ sZ σZ HZ Q' IZ ⟨e1, e2, e3⟩ => by
    refine wpAny_Call_Name_kw (thn ((pe_var (pos := p1) hNg hva hd hcd).run pinsZ sZ σZ HZ (fun v H2 => v = .ref f ∧ H2 = HZ) IZ ⟨.ref f, e1, rfl, rfl⟩) fun u s2 z => ?_)
    obtain ⟨_, _, J, rel, ev, eH⟩ := z
    subst ev
    rw [eH] at J
    obtain rfl : u = Value.ref f := rel
    have un : Un (frs X.stack) [] H1 HZ s'.heap s2.heap := J.base
    have hx : Passes (L2.CX X.prog X.w) ((cxOf C8.CX0 X.prog X.w X.K X.mg X.base Ng x sg g cdv X.A X.stack s' H1 C8.E0).tr pn xe) E := passes_call tk hW
    have at_ := un.keep f _ M.obj M.offF.1 M.offF.2 List.not_mem_nil
    have body_ : codeAny (model X.prog X.w) (X.A.deeper (envOfC x sg s'.heap.objs.size g cdv)) (.call (.ref f) ⟨[], []⟩) (CR (L2.CX X.prog X.w) (envOfC x sg s'.heap.objs.size g cdv :: X.stack) X.prog X.w HZ s2 Q' E) s2 :=
      lam_runs (X := X) (k := k) I1 L M un J.env0 e2 hr' han (hbind _ _ _ _ _ _ _ _) (hbody _ _ _ _ E f c') e3
    exact PySem.W.callWith_F0 ⟨_, _, _, _, at_⟩ (call_ends (us := []) J (fun e s3 z => hx pinsZ σZ HZ s2 e s3 J z) body_)⟩) hco (h H1 eN T1)
  exact ⟨t', pt.nox, qt⟩
end DtR

set_option Elab.async false
set_option linter.all false
set_option maxRecDepth 100000
set_option maxHeartbeats 4000000
/-! super().__init__(e) as the first row of an own exception's __init__, the exception over ValueError. -/
namespace DtR
open PySem PySem.Spec PyProof.Rows L2
section
variable {prog : Program} {w : World} {A : Around} {s : Shared}
/-- the method-wrapper at u, of the built-in i over the object at e, is called: it is the built-in with the object ahead -/
theorem mw_called {i : String} {u e : Addr} {rest : List Value} {R : Result → Shared → Prop} (hu : s.heap.get? u = some (PySem.W.kxs_mw i e)) (quiet : (Code.builtin i ⟨.ref e :: rest, []⟩).quiet = true)
    (run : wpAny (model prog w) A.in1 (checkBoundCall i ⟨.ref e :: rest, []⟩) (fun _ s1 => codeAny (model prog w) A (.builtin i ⟨.ref e :: rest, []⟩) R s1) (fun z s1 => R (.error z) s1) s) :
    codeAny (model prog w) A (.call (.ref u) ⟨rest, []⟩) R s := codeAny_of_tree (by
  have bound : ((Value.type "method-wrapper" == Value.type "method" || Value.type "method-wrapper" == Value.type "builtin_function_or_method") || Value.type "method-wrapper" == Value.type "method-wrapper") = true := by decide
  change wpAny (model prog w) A.in1 (callAny (.ref u) ⟨rest, []⟩) _ _ s
  simp only [callAny]
  refine wpAny_bind (wpAny_load hu (by
    simp only [PySem.W.kxs_mw, bound, if_true]
    exact PySem.W.KFB.if_so (by decide) (wpAny_bind (wpAny_mono run (fun _ _ z => wpAny_bind (wpAny_pure (wpAny_pure ⟨quiet, z⟩))) fun _ _ z => z)))))
/-- .. ValueError's __init__, bound to an exception of an own class over it: the args are laid anew -/
theorem call_mwVE {nm q : Str} {C N u e t0 : Addr} {bs bm : List Value} {hdct : Bool} {sn : List Str} {sub : List Value} {ab : Bool} {col : Option Bool} {dd : Option Addr} {k0 k1 k2 k3 k5 : Option Value} {rest : List Value} {E Q : Value → Shared → Prop}
    (hC : s.heap.get? C = some (excClassObj nm q C N bs bm hdct sn sub ab col dd k0 k1 k2 k3 k5 "ValueError.__new__")) (he : s.heap.get? e = some (HandSPX.excO C t0)) (hu : s.heap.get? u = some (PySem.W.kxs_mw "ValueError.__init__" e)) (hrest : rest.length ≤ sizeLine)
    (then_ : ∀ h' t1, (∀ b o, b ≠ e → s.heap.get? b = some o → h'.get? b = some o) → h'.get? e = some (HandSPX.excO C t1) → Q .none { s with heap := h' }) : wpAny (model prog w) A (call (.ref u) rest) Q E s := by
  obtain ⟨h, g, d, t, os⟩ := s
  exact wpAny_call (mw_called hu (Code.quiet_builtin _ (by decide +kernel)) (ESX.check_bound F.excBase_ValueError hC he rfl
    (codeAny_builtin F.excBase_ValueError.initEntry (PySem.W.exc_init_tree (cls := .ref C) (t0 := t0) (dv := none) (c2 := .none) (c3 := .none) (b4 := .bool false) he hrest fun h' k ex _ => then_ h' _ k ex))))
end
/-- what the written part says of the class at C, of its __init__ at fI, of that def's cell and code object -/
structure SupC (K : PySem.W.Frag) (mg : Str → Option Value) (P : Program) (C cc cda fI : Addr) (fd : FuncData) : Prop where
  ox : OexC K C
  ve : PySem.W.subIn K (.ref C) (.type "ValueError") = some true
  sup : PySem.W.ks_superIn K C C "__init__" = some (some (.builtin "ValueError.__init__"))
  self : PySem.W.mroIn K C (.ref C) = some true
  opq : PySem.W.nsIn K cStatics "thirdparty.any" = some none
  mgS : mg "super" = none
  fnl : ∃ oc od osl, K.lookup fI = some ⟨oc, od, .func fd, osl⟩
  file : ∃ ccl cdd vs ccs f tf, K.lookup cda = some ⟨ccl, cdd, .fields vs, ccs⟩ ∧ vs[2]? = some (.str f tf) ∧ (P.main.file == f) = true
  cell : ∃ cl cld csl, K.lookup cc = some ⟨cl, cld, .cell (some (.ref C)), csl⟩
  top : (P.main.scope.names.lookup ("super" : Str)).isSome = false
section
variable {X : Cx} {pins : List (Addr × Obj)} {σ : L2.St} {H : Hp} {s : Shared} {D : Ends} {x C cc cda fI : Addr} {fd : FuncData} {ar : Arg} {e : Expr} {te : TE} {body : List Stmt} {p0 p1 p2 p3 p4 : Pos} {pl : Sem Bool}
theorem sup_first (T : SupC X.K X.mg X.prog C cc cda fI fd) (I : Inv X pins σ H s) (hx : H x = some (exo x C none)) (h0 : σ[0]? = some (some (.ref x)))
    (hN : X.N[0]? = some ar.arg) (hka : X.env.kindOf ar.arg = some .local)
    (hks : X.env.kindOf "super" = some .globalImplicit) (hkc : X.env.kindOf "__class__" = some .free) (hfu : X.env.func = some fI) (hco : X.env.code = .ref cda) (hcl : X.env.cells.lookup ("__class__" : Str) = some cc)
    (hp : (fd.params.posonlyargs ++ fd.params.args).head? = some ar) (he : PE X e te)
    (h : te σ H fun _ H1 => H1 x = some (exo x C none) ∧ D.nx σ H1)
    (hsw : swapsWith (.Call (.Attribute (.Call (.Name "super" p0) [] [] p1) "__init__" p2) [e] [] p3) none p4.line X.env = pure false)
    (hst : starEach [e] X.env = (false, eval e X.env) :: starEach [] X.env)
    (hev : eval (.Call (.Attribute (.Call (.Name "super" p0) [] [] p1) "__init__" p2) [e] [] p3) X.env = (do
      let ov ← attributeBase (.Call (.Name "super" p0) [] [] p1) "__init__" X.env (eval (.Call (.Name "super" p0) [] [] p1) X.env)
      standAt p2.atName
      let (f, first) ← holding [ov] (getMethod ov "__init__" pl)
      callWith p3 f first (backTo p3 (starEach [e] X.env)) [])) :
    _root_.PySem.wpAt (model X.prog X.w) X.A (.func body X.env) (exec (.Expr (.Call (.Attribute (.Call (.Name "super" p0) [] [] p1) "__init__" p2) [e] [] p3) p4) X.env) (SP X pins D) X.xe s := by
  refine ks_wpAt_Expr_any ?_ I.quiet hsw
  refine ks_wpAt_MethodCall (pl := pl) ?_ hev
  obtain ⟨oc, od, osl, lf⟩ := T.fnl
  obtain ⟨ccl, cdd, vs, ccs, fl, tf, lc, hv, hfile⟩ := T.file
  obtain ⟨cl, cld, csl, lcell⟩ := T.cell
  obtain ⟨nm, qn, N, bs, bm, sn, sub, ab, col, dd, k0, k1, k2, k3, k5, hC, hbm⟩ := T.ox.cls
  have KX := I.kIn
  refine ks_wpAt_super_base hks hkc (by decide +kernel) hfu (KX _ _ lf) rfl hp hco (KX _ _ lc) rfl hv hfile T.top ?_
  have gl : s.heap.Ns X.env.globals X.mg := by
    rw [I.ok.glob]
    exact I.mod.glob.keeps I.bk
  obtain ⟨mb, hb1, hb2⟩ := I.mod.blt
  have bl : s.heap.Ns X.env.builtins mb := by
    rw [I.ok.blt]
    exact hb1.keeps I.bk
  refine PySem.W.ks_loadName_global I.ok.kind hks (Calls.loadGlobal_builtin gl T.mgS bl ((hb2 "super" (by decide +kernel)).trans (by decide +kernel)) ⟨rfl, ?_⟩)
  refine wpAny_loadName_free I.ok.kind hkc hcl ⟨_, KX _ _ lcell, rfl⟩ ?_
  obtain ⟨m, hn, hl⟩ := I.loc
  obtain ⟨ux, rx, look⟩ := hl 0 ar.arg (.ref x) hN h0 (Or.inl hka)
  obtain rfl : ux = Value.ref x := rx
  have hm : m ar.arg = some (.ref x) := by
    rcases look with ⟨_, z⟩ | ⟨z, _⟩
    · exact z
    · rw [hka] at z
      rcases z with z | z <;> cases z
  refine wpAny_loadName_local I.ok.kind hka hn hm ?_
  obtain ⟨hp', g, dr, tk, os⟩ := s
  have hCh := KX _ _ hC
  obtain ⟨t1, hxo⟩ := exo_at I.hok hx
  refine ks_wpAny_isType_cls hCh rfl ⟨rfl, ?_⟩
  refine ks_wpAny_call_super hCh rfl hxo rfl (fun c z => by cases z) (PySem.W.looks_mroIn KX T.self) (fun h1 e1 k1 => ?_)
  have I1 : Inv X pins σ H ⟨h1, g, dr, tk, os⟩ := I.kept (t' := tk) k1
  have hx1 := k1 _ _ hxo
  have inst : PySem.W.InstAt h1 x (HandSPX.excO C t1) C none := ⟨hx1, rfl, rfl, trivial⟩
  have cd : PySem.W.clsIn X.K C = some { name := nm, bases := bs, mro := .ref C :: bm, ns := N, qualname := qn, hasDict := true, slotNames := sn, subclasses := sub, abstract := ab, collection := col, hasDel := false } := by
    unfold PySem.W.clsIn
    rw [hC] <;> rfl
  have along := T.sup
  unfold PySem.W.ks_superIn at along
  rw [cd] at along
  have hne : x ≠ C := PySem.W.ks_ne I1.kIn inst cd
  refine PySem.W.kxs_getMethod (B := "ValueError") (i := "ValueError.__init__") PySem.W.kxs_ValueError e1 (PySem.W.looks_opaque I1.kIn T.opq) (l₀ := .ref C :: bm)
    (fun A Q E s k q => wpAny_bind ((PySem.W.looks_clsIn I1.kIn cd) A _ E s k (wpAny_pure q))) rfl I1.kIn along (inst.type.andThen (PySem.W.looks_subIn I1.kIn T.ve)) hne (by decide +kernel) ?_
  have up : ∀ b o, h1.get? b = some o → (h1.push (PySem.W.kxs_mw "ValueError.__init__" x)).get? b = some o := fun b o z => Heap.get?_push_of_some _ z
  have I2 : Inv X pins σ H ⟨h1.push (PySem.W.kxs_mw "ValueError.__init__" x), g, dr, tk + 1, os⟩ := I1.kept (t' := tk + 1) up
  have hu : (h1.push (PySem.W.kxs_mw "ValueError.__init__" x)).get? h1.objs.size = some (PySem.W.kxs_mw "ValueError.__init__" x) := Heap.get?_push_at rfl rfl
  have I3 : Inv X (pins ++ [(h1.objs.size, PySem.W.kxs_mw "ValueError.__init__" x)]) σ H ⟨h1.push (PySem.W.kxs_mw "ValueError.__init__" x), g, dr, tk + 1, os⟩ := by
    refine I2.pins_of fun p hp => ?_
    rcases List.mem_append.mp hp with hp | hp
    · exact I2.pin p (List.mem_append_right _ hp)
    · have ep : p = (h1.objs.size, PySem.W.kxs_mw "ValueError.__init__" x) := by simpa using hp
      subst ep
      refine ⟨hu, I1.hok.fresh (Nat.le_refl _), Nat.ne_of_gt I1.lt, I1.nofs (Nat.le_refl _), fun v z => ?_⟩
      cases z
  refine PySem.W.kxs_callWith (i := "ValueError.__init__") (x := x) (by rw [hst]; rfl) ?_
  rw [hst]
  refine Calls.evalArgs_plain ?_
  show wpAny _ _ (spliced ((false, eval e X.env) :: backTo p3 (starEach [] X.env))) _ _ _
  refine Calls.spliced_cons (thn (he.run _ _ σ H _ I3 h) fun v s1 hh => ?_)
  obtain ⟨vv, H1, I4, r1, hx4, q⟩ := hh
  refine Calls.spliced_nil ?_
  obtain ⟨hu4, _⟩ := I4.pin (h1.objs.size, PySem.W.kxs_mw "ValueError.__init__" x) (List.mem_append_right _ (List.mem_append_right _ (List.mem_singleton.mpr rfl)))
  refine ⟨hu4, ?_⟩
  obtain ⟨h4, g4, d4, t4, os4⟩ := s1
  obtain ⟨t5, hxo4⟩ := exo_at I4.hok hx4
  refine call_mwVE (I4.kIn _ _ hC) hxo4 hu4 (by show 1 ≤ sizeLine; rw [sizeLine_eq]; omega) fun h5 t6 k5 e5 => ?_
  have I5 := I4.unpinned.write (t' := t4) (x := x) (e := x) (o := exo x C none) (by rw [hx4]; exact True.intro) (.inl rfl) k5 ⟨_, e5⟩ (exo_ok e5)
  have eu : upd H1 x (exo x C none) = H1 := by
    funext b
    by_cases hb : b = x
    · rw [hb, upd_same, hx4]
    · rw [upd_ne hb]
  rw [eu] at I5
  exact ⟨σ, H1, I5, q⟩
end
section
variable {P : Program} {w : World} {K : PySem.W.Frag} {mg : Str → Option Value} {base : Heap} {k : Nat} {C cc cda fI : Addr} {ar : Arg} {e : Expr} {rest : List Stmt} {qual : Str} {params : Arguments} {scope : Scope}
  {kV doc pm ct : Value} {an : Option Addr} {N ps : List Str} {sp : Sp} {p0 p1 p2 p3 p4 : Pos}
abbrev supSt (e : Expr) (p0 p1 p2 p3 p4 : Pos) : Stmt := .Expr (.Call (.Attribute (.Call (.Name "super" p0) [] [] p1) "__init__" p2) [e] [] p3) p4
abbrev supFd (qual : Str) (params : Arguments) (body : List Stmt) (scope : Scope) (kV doc pm : Value) (an : Option Addr) (cda : Addr) (ct : Value) (cc : Addr) : FuncData :=
  PySem.W.ksFn "__init__" qual params body scope .none kV doc pm an (.ref cda) ct cc
abbrev supNF (qual : Str) (params : Arguments) (body : List Stmt) (scope : Scope) (cda cc : Addr) : NdefX.NF := ⟨"__init__", qual, params, body, scope, [("__class__", cc)], cda⟩
/-- the __init__ keeps its promise: e is the text handed to super, rest the further rows -/
theorem fn_super (T : SupC K mg P C cc cda fI (supFd qual params (supSt e p0 p1 p2 p3 p4 :: rest) scope kV doc pm an cda ct cc)) (hcd : PySem.W.codeIn K (.ref cda) qual = true)
    (S : NdefX.NScope N ps ["__class__"] scope) (len : ∀ vs H Q E, sp vs H Q E → vs.length = ps.length) (hN : N[0]? = some ar.arg) (hka : scope.names.lookup ar.arg = some .local)
    (hks : scope.names.lookup ("super" : Str) = some .globalImplicit) (hp : (params.posonlyargs ++ params.args).head? = some ar)
    (hbody : ∀ (A : Around) (outer : List Env) (s : Shared) (H : Hp) (vs : List V) (Q : VK) (E : XK), Room k (A.deeper (NdefX.envF (supNF qual params (supSt e p0 p1 p2 p3 p4 :: rest) scope cda cc) fI s.heap.objs.size)) → sp vs H Q E →
      ∃ (te : TE) (t : TS) (x : Addr), PE (NdefX.ncx CX0 P w K mg base N (supNF qual params (supSt e p0 p1 p2 p3 p4 :: rest) scope cda cc) fI A outer s H E) e te ∧
        PSs (NdefX.ncx CX0 P w K mg base N (supNF qual params (supSt e p0 p1 p2 p3 p4 :: rest) scope cda cc) fI A outer s H E) rest t ∧
        (NdefX.startF N vs [none])[0]? = some (some (.ref x)) ∧ H x = some (exo x C none) ∧
        te (NdefX.startF N vs [none]) H fun _ H1 => H1 x = some (exo x C none) ∧ t { nx := fun _ H' => Q .non H', rt := Q } (NdefX.startF N vs [none]) H1)
    (hst : ∀ env, starEach [e] env = (false, eval e env) :: starEach [] env)
    (hsw : ∀ env, swapsWith (.Call (.Attribute (.Call (.Name "super" p0) [] [] p1) "__init__" p2) [e] [] p3) none p4.line env = pure false)
    {pl : Env → Sem Bool}
    (hev : ∀ env, eval (.Call (.Attribute (.Call (.Name "super" p0) [] [] p1) "__init__" p2) [e] [] p3) env = (do
      let ov ← attributeBase (.Call (.Name "super" p0) [] [] p1) "__init__" env (eval (.Call (.Name "super" p0) [] [] p1) env)
      standAt p2.atName
      let (f, first) ← holding [ov] (getMethod ov "__init__" (pl env))
      callWith p3 f first (backTo p3 (starEach [e] env)) [])) :
    FnOk P w K mg base CX0 (k + 1) fI (supFd qual params (supSt e p0 p1 p2 p3 p4 :: rest) scope kV doc pm an cda ct cc) ps sp := by
  refine ⟨len, fun A outer s H args us vs Q E hr e0 hb r hsp => ?_⟩
  have hl := len _ _ _ _ hsp
  have KX : K.In s.heap := e0.mod.kin.keeps fun b o z => (e0.bs b o z).1
  have lim : s.heap.NoLimit := e0.mod.nolimit.keeps fun b o z => (e0.bs b o z).1
  obtain ⟨oc, od, osl, lf⟩ := T.fnl
  obtain ⟨cl, cld, csl, lcell⟩ := T.cell
  refine ks_codeAny_call_defAt (binds := ps.zip us) hr.depth (KX _ _ lf) rfl lim (PySem.W.codeRec_of KX hcd) rfl hb (fun y hy => S.nocell y hy) (fun y hy => ?_) (fun h₀ hns kp => ?_) S.co S.gen S.kind
  · obtain ⟨n, v⟩ := y
    exact S.par n (List.of_mem_zip hy).1
  · have baseKP : ∀ a o, K.lookup a = some o → base.get? a = some o := fun a o z => e0.mod.kin a o z
    have CA : NdefX.CellsAt (supNF qual params (supSt e p0 p1 p2 p3 p4 :: rest) scope cda cc).cl ["__class__"] [none] s.heap H := by
      have only : ∀ y c, List.lookup y [(("__class__" : Str), cc)] = some c → y = "__class__" ∧ c = cc := fun y c z => by
        by_cases hy : y = "__class__"
        · subst hy
          have z2 : List.lookup ("__class__" : Str) [(("__class__" : Str), cc)] = some cc := by simp [List.lookup]
          rw [z2] at z
          exact ⟨rfl, (Option.some.inj z).symm⟩
        · have hy2 : (y == ("__class__" : Str)) = false := by simpa using hy
          simp [List.lookup, hy2] at z
      refine ⟨rfl, fun y c z => ?_, fun x y c z1 z2 => ?_, fun i y z => ?_⟩
      · obtain ⟨_, rfl⟩ := only y c z
        exact ⟨(e0.bs _ _ (baseKP _ _ lcell)).2, some (.ref C), _, KX _ _ lcell, rfl⟩
      · rw [(only x c z1).1, (only y c z2).1]
      · cases i with
        | succ j => simp at z
        | zero =>
          simp at z
          subst z
          refine ⟨cc, by simp [List.lookup], fun v z => ?_⟩
          simp at z
    have I : Inv (NdefX.ncx CX0 P w K mg base N (supNF qual params (supSt e p0 p1 p2 p3 p4 :: rest) scope cda cc) fI A outer s H E) [] (NdefX.startF N vs [none]) H { s with heap := h₀, toks := s.toks + (ps.zip us).length } :=
      NdefX.inv_startN S hr.hd e0 hl r CA hns kp
    obtain ⟨te, t, x, he, ht, h0, hx, hq⟩ := hbody A outer s H vs Q E (hr.deeper _) hsp
    refine ks_wpAt_mono (Q := fun f s' => SP (NdefX.ncx CX0 P w K mg base N (supNF qual params (supSt e p0 p1 p2 p3 p4 :: rest) scope cda cc) fI A outer s H E) [] { nx := fun _ H' => Q .non H', rt := Q } f s')
      (ks_wpAt_execs_cons (ks_wpAt_mono (sup_first (D := { nx := fun σ' H1 => t { nx := fun _ H' => Q .non H', rt := Q } σ' H1, rt := Q }) (ar := ar) (pl := pl _) T I hx h0 hN hka hks (S.frk "__class__" (by simp)) rfl rfl (show List.lookup ("__class__" : Str) [(("__class__" : Str), cc)] = some cc by simp [List.lookup]) hp he hq (hsw _) (hst _) (hev _)) (fun f s' hf => ?_) fun _ _ z => z))
      (fun f s' hs => ?_) fun er s' z => z
    · cases f with
      | next =>
        obtain ⟨σ', H', J, q⟩ := hf
        exact wpAt_of_wpAny (ht.run [] s' σ' H' _ J q)
      | ret u => exact hf
      | brk => exact hf
      | cont => exact hf
    · have fin : ∀ {σ' : L2.St} {H' : Hp} {v : V} {u : Value}, Inv (NdefX.ncx CX0 P w K mg base N (supNF qual params (supSt e p0 p1 p2 p3 p4 :: rest) scope cda cc) fI A outer s H E) [] σ' H' s' → L2.RelV v u → Q v H' → CE outer P w H s Q u s' :=
        fun {σ' H' v u} J rv q => ⟨v, H', J.os, J.bare, J.base, J.hok, rv, q⟩
      cases f with
      | ret u =>
        obtain ⟨v, σ', H', J, rv, q⟩ := hs
        exact fin J rv q
      | next =>
        obtain ⟨σ', H', J, q⟩ := hs
        exact fin (v := V.non) (u := Value.none) J rfl q
      | brk =>
        obtain ⟨_, _, _, q⟩ := hs
        exact False.elim q
      | cont =>
        obtain ⟨_, _, _, q⟩ := hs
        exact False.elim q
end
end DtR

set_option Elab.async false
set_option linter.all false
set_option maxRecDepth 100000
set_option maxHeartbeats 4000000
/-! A caught error that is kept in a name behind its suite: it is tracked from then on. First the error on the ground (Down), then the clause. -/
namespace DtR
open PySem PySem.Spec PyProof.Rows L2
/-- an exception object of the class cls, with the dict d, whatever its record says -/
def ExK (cls : Value) (d : Option Addr) (a : Addr) : HO := .ext fun h => ∃ (oe : Obj) (vs : Array Value), h.get? a = some oe ∧ Zc cls d oe ∧ oe.data = .fields vs
theorem exK_ok {P : Program} {w : World} {H : Hp} {h : Heap} {a : Addr} {cls : Value} {d : Option Addr} {oe : Obj} {vs : Array Value} (e : h.get? a = some oe) (z : Zc cls d oe) (hd : oe.data = .fields vs) : ObjOk P w H h a (ExK cls d a) :=
  ⟨⟨oe, vs, e, z, hd⟩, ⟨oe, e⟩, fun _ _ hh k => by
    obtain ⟨o, v, q, r1, r2⟩ := hh
    exact ⟨o, v, k o q, r1, r2⟩⟩
theorem exK_at {P : Program} {w : World} {H : Hp} {h : Heap} {a : Addr} {cls : Value} {d : Option Addr} (hok : HOk P w H h) (e : H a = some (ExK cls d a)) : ∃ (oe : Obj) (vs : Array Value), h.get? a = some oe ∧ Zc cls d oe ∧ oe.data = .fields vs := by
  obtain ⟨z, _, _⟩ := hok a _ e
  exact z
section
variable {X : Cx} {pins : List (Addr × Obj)} {σ : L2.St} {H : Hp} {s : Shared}
/-- an object that came behind the entry and was not looked at is tracked from now on -/
theorem inv_track {a : Addr} {o : HO} (I : Inv X pins σ H s) (n0 : X.s_0.heap.get? a = none) (hn : H a = none) (nL : a ≠ X.env.locals) (nC : ∀ x c, X.env.cells.lookup x = some c → c ≠ a)
    (np : ∀ p ∈ X.pn ++ pins, p.1 ≠ a) (new : ObjOk X.prog X.w (upd H a o) s.heap a o) : Inv X pins σ (upd H a o) s := by
  have go : ∀ {b u}, H b = some u → upd H a o b = some u := fun e => (upd_ne (ne_of_none e hn)).trans e
  exact {
    ok := I.ok, os := I.os, bare := I.bare, loc := I.loc, cell := I.cell, len := I.len
    base := {
      keep := I.base.keep, slot := I.base.slot, there := I.base.there
      free := fun b u e n hx => (upd_ne fun z => nomatch (z ▸ e).symm.trans n0).trans (I.base.free b u e n hx)
      tups := fun b xs e => go (I.base.tups b xs e)
      frzs := fun b ob u e => go (I.base.frzs b ob u e)
      tbls := fun b ps e => (I.base.tbls b ps e).imp fun _ q => go q }
    free := (upd_ne (Ne.symm nL)).trans I.free
    freeC := fun x c e => (upd_ne (nC x c e)).trans (I.freeC x c e)
    pin := fun p hp => let ⟨e, n, r⟩ := I.pin p hp; ⟨e, (upd_ne (np p hp)).trans n, r⟩
    hok := I.hok.laidN (fun _ _ q => q) hn new }
end
/-! ### the error on the ground -/
/-- the exception at a has landed at s; sI is the state without it, B the ground -/
structure Down (X : Cx) (pins : List (Addr × Obj)) (B : Heap) (a : Addr) (cls : Value) (d : Option Addr) (σ : L2.St) (H : Hp) (sI s : Shared) : Prop where
  was : Inv X pins σ H sI
  nb : ∀ b o, sI.heap.get? b = some o → b ∉ frs X.stack → B.get? b = some o
  up : sI.heap.UpToSlots s.heap
  fly : HandSPX.FlyingZ B X.stack a (Zc cls d) s.heap
  na : H a = none
  os : s.os = sI.os
  ag : AllBare s.gens
section
variable {X : Cx} {pins : List (Addr × Obj)} {σ : L2.St} {H : Hp} {sI s : Shared} {B : Heap} {a : Addr} {cls : Value} {d : Option Addr}
theorem Down.inv (D : Down X pins B a cls d σ H sI s) : Inv X pins σ H s := D.was.landed D.nb D.fly.1 D.up D.os D.ag
theorem Down.off (D : Down X pins B a cls d σ H sI s) : a ∉ frs X.stack := fun m => by
  obtain ⟨_, o, e, nf⟩ := D.fly.2.2.1.mem m
  obtain ⟨oe, vs, e', _, hd⟩ := D.fly.there
  exact nf vs (Option.some.inj (e'.symm.trans e) ▸ hd)
/-- it was not there before -/
theorem Down.new (D : Down X pins B a cls d σ H sI s) {b : Addr} {o : Obj} (e : sI.heap.get? b = some o) : b ≠ a := fun z => by
  subst z
  exact nomatch (D.nb _ o e D.off).symm.trans D.fly.2.1
theorem own_frame (hs : X.stack = X.env :: X.outer) (hf : X.env.frame = some X.env.locals) : ∀ b, b = X.env.locals ∨ b ∈ X.fs → b ∈ frs X.stack := fun b m => by
  rw [hs, show frs (X.env :: X.outer) = X.env.locals :: X.fs from List.filterMap_cons_some hf]
  exact List.mem_cons.mpr m
theorem Down.suite (D : Down X pins B a cls d σ H sI s) (fr : ∀ b, b = X.env.locals ∨ b ∈ X.fs → b ∈ frs X.stack) :
    ∃ oe, s.heap.get? a = some oe ∧ Zc cls d oe ∧ (∃ vs, oe.data = .fields vs) ∧ Inv (X.suite a ((a, oe) :: (X.pn ++ pins))) [] σ H s := by
  obtain ⟨oe, vs, he, hz, hd⟩ := D.fly.there
  exact ⟨oe, he, hz, ⟨vs, hd⟩, D.inv.suite he hd D.na (fun z => D.off (fr a (.inl z))) fun m => D.off (fr a (.inr m))⟩
/-- behind the suite it is tracked -/
theorem Down.track (D : Down X pins B a cls d σ H sI s) (fr : ∀ b, b = X.env.locals ∨ b ∈ X.fs → b ∈ frs X.stack) (hex : X.ex = []) {oe : Obj} {τ : L2.St} {G : Hp} {t : Shared} (hz : Zc cls d oe) (hd : ∃ vs, oe.data = .fields vs) (J : Inv X ((a, oe) :: pins) τ G t) :
    Inv X pins τ (upd G a (ExK cls d a)) t := by
  obtain ⟨vs, hd⟩ := hd
  obtain ⟨e, n, _⟩ := J.pin (a, oe) (List.mem_append_right _ List.mem_cons_self)
  have J' : Inv X pins τ G t := J.pins_of fun p hp => J.pin p (List.mem_append.mpr (.inr (.tail _ hp)))
  refine inv_track J' (Option.eq_none_iff_forall_ne_some.mpr fun o q => ?_) n (fun z => D.off (fr a (.inl z))) (fun y k q => ?_) (fun p hp => D.new (D.was.pin p hp).1) (exK_ok e hz hd)
  · obtain ⟨o', e'⟩ := D.was.base.there a o q (hex ▸ List.not_mem_nil)
    exact D.new e' rfl
  · obtain ⟨_, o, ho, _⟩ := D.was.cell y k q
    exact D.new ho
/-- the clause's class is read -/
theorem clause_name {x : Str} {c : Value} {np : Pos} {q : List (Addr × Obj)} {Q E : Value → Shared → Prop} (hc : Names X x c) (S : Inv (X.suite a q) [] σ H s) (h : Q c s) : wpAny (model X.prog X.w) (X.A.mark (some (.ref a))) (eval (.Name x np) X.env) Q E s :=
  match hc with
  | ⟨g, db, .inl m⟩ => ld_glob (X := X.suite a q) S g m h db
  | ⟨g, db, .inr ⟨m, v, nn⟩⟩ => ld_blt (X := X.suite a q) S g m v h nn db
/-- behind the body of a try -/
theorem sp_out {xe : Value → Shared → Prop} {D : Ends} {f : Flow} (ok : X.Ok) (z : SP (X.tr (X.pn ++ pins) xe) [] D f s) : SP X pins D f s :=
  match f, z with
  | .next, ⟨_, _, J, q⟩ => ⟨_, _, J.ofTry ok, q⟩
  | .brk, ⟨_, _, J, q⟩ => ⟨_, _, J.ofTry ok, q⟩
  | .cont, ⟨_, _, J, q⟩ => ⟨_, _, J.ofTry ok, q⟩
  | .ret _, ⟨_, _, _, J, q⟩ => ⟨_, _, _, J.ofTry ok, q⟩
end
/-! ### the clause -/
/-- what the clause wishes of the body's exception: it is of the clause's class; behind the suite it is tracked -/
def wKeep (K : PySem.W.Frag) (c : Value) (i : Nat) (ts : Addr → Value → Option Addr → TS) (D : Ends) : WX := fun cls d σ H =>
  PySem.W.exmOne K cls c = some true ∧ ∀ a, H a = none → ts a cls d { nx := fun σ' H' => D.nx (σ'.set i none) (upd H' a (ExK cls d a)), rt := fun _ _ => False } (σ.set i (some (.ref a))) H
section
variable {X : Cx} {x n : Str} {c : Value} {i : Nat} {body suite : List Stmt} {b₀ : Stmt} {np pos pos' : Pos} {tb : WX → TS} {ts : Addr → Value → Option Addr → TS}
theorem clause_runs {pins : List (Addr × Obj)} {D : Ends} {σ : L2.St} {H : Hp} {sI s : Shared} {B : Heap} {a : Addr} {cls : Value} {d : Option Addr} (hs : X.stack = X.env :: X.outer) (hf : X.env.frame = some X.env.locals) (hex : X.ex = []) (hN : X.N.Nodup) (hi : X.N[i]? = some n) (hln : X.env.kindOf n = some .local) (hc : Names X x c)
    (hsu : ∀ (a : Addr) (oe : Obj) (cls : Value) (d : Option Addr) (pn : List (Addr × Obj)), Zc cls d oe → (∃ vs, oe.data = .fields vs) → PSs (X.suite a ((a, oe) :: pn)) (b₀ :: suite) (ts a cls d))
    (L : Down X pins B a cls d σ H sI s) (W : wKeep X.K c i ts D cls d σ H) :
    wpAny (model X.prog X.w) X.A (handleBy (.ref a) X.env [.ExceptHandler (some (.Name x np)) (some n) (b₀ :: suite) pos']) (SP X pins D) X.xe s := by
  have fr := own_frame hs hf
  obtain ⟨oe, he, hz, _, S⟩ := L.suite fr
  refine wpAny_handleBy_cons (codeAny_handlers_test (clause_name hc S ?_)) nofun
  refine (PySem.W.exm_one L.inv.kIn (fun _ _ _ _ k q => wpAny_typeOf_ref (k _ _ he) (hz.1 ▸ q)) W.1).here ?_
  refine codeAny_handlers_suite_as (HandSPX.lands_againZ L.fly fun h4 fl4 up4 => ?_)
  have L4 : Down X pins B a cls d σ H sI { s with heap := h4 } := ⟨L.was, L.nb, L.up.trans up4, fl4, L.na, L.os, L.ag⟩
  obtain ⟨o4, _, z4, d4, S4⟩ := L4.suite fr
  refine store_ok (X := X.suite a ((a, o4) :: (X.pn ++ pins))) (v := .ref a) S4 hN hi (.inl hln) rfl (fun s5 S5 => ?_) (.inr hln)
  refine wpAny_mono ((hsu a o4 cls d (X.pn ++ pins) z4 d4).run [] s5 _ H _ S5 (W.2 a L.na)) (fun f s6 z => ?_) fun _ _ z => False.elim z
  match f, z with
  | .next, ⟨σ6, H6, S6, q6⟩ =>
    have S7 : Inv X ((a, o4) :: pins) σ6 H6 s6 := ⟨L4.inv.ok, S6.os, S6.bare, S6.base, S6.loc, S6.cell, S6.free, S6.freeC, fun p hp => S6.pin p (by
      show p ∈ ((a, o4) :: (X.pn ++ pins)) ++ []
      simp only [List.append_nil, List.mem_append, List.mem_cons] at hp ⊢
      exact or_left_comm.mp hp), S6.hok, S6.len⟩
    exact gone_ok S7 hN hi hln fun s7 J7 => ⟨_, _, L4.track fr hex z4 d4 J7, q6⟩
  | .brk, ⟨_, _, _, q6⟩ => exact q6.elim
  | .cont, ⟨_, _, _, q6⟩ => exact q6.elim
  | .ret _, ⟨_, _, _, _, _, q6⟩ => exact q6.elim
theorem ps_try_keep (hs : X.stack = X.env :: X.outer) (hf : X.env.frame = some X.env.locals) (hex : X.ex = []) (hN : X.N.Nodup) (hi : X.N[i]? = some n) (hln : X.env.kindOf n = some .local) (hc : Names X x c)
    (hb : ∀ (W : WX) (pn : List (Addr × Obj)) (xe : Value → Shared → Prop), Takes (X.tr pn xe) W → PassesOwn (model X.prog X.w) X.A X.env xe → PSs (X.tr pn xe) body (tb W))
    (hsu : ∀ (a : Addr) (oe : Obj) (cls : Value) (d : Option Addr) (pn : List (Addr × Obj)), Zc cls d oe → (∃ vs, oe.data = .fields vs) → PSs (X.suite a ((a, oe) :: pn)) (b₀ :: suite) (ts a cls d)) :
    PS X (.Try body [.ExceptHandler (some (.Name x np)) (some n) (b₀ :: suite) pos'] [] [] pos) (fun D σ H => tb (wKeep X.K c i ts D) D σ H) := .mk fun pins s σ H D I h => by
  refine wpAny_Try_except (wpAny_mono ((hb (wKeep X.K c i ts D) (X.pn ++ pins) _ (fun u s' air => ?_) PassesOwn.looking).run [] s σ H D (I.toTry _) h) (fun f s1 z => ?_) fun _ _ z => z)
  · obtain ⟨a, B, sI, pins', σ', H', cls, d, rfl, J, nb, up, sky, na, os, ag, W⟩ := air
    refine Sky.land Zc.steady (I.ok.frames.trans (congrArg some hs)) hf (hs ▸ sky) fun h3 fl up3 => ?_
    exact clause_runs hs hf hex hN hi hln hc hsu ⟨J.ofTry I.ok, nb, up.trans up3, hs ▸ fl, na, os, ag⟩ W
  · have out := sp_out I.ok z
    cases f with
    | next => exact wpAny_execs_nil out
    | _ => exact out
end
end DtR

set_option Elab.async false
set_option linter.all false
set_option maxRecDepth 100000
set_option maxHeartbeats 2000000
namespace Dt
open PySem PySem.Spec PyProof.Rows L2
def top (i : Nat) : Stmt := PySem.Challenge.pw_duetickers_k28_whole_puzzles_joined.main.body.getD i (.Pass ⟨0, 0, 0, 0⟩)
abbrev sBPInit : Stmt := inClass (top 4) 0
abbrev sTMInit : Stmt := inClass (top 5) 0
abbrev sIsInt : Stmt := top 8
abbrev sWithin : Stmt := top 9
abbrev sNeedNum : Stmt := top 10
abbrev sWritten : Stmt := top 14
abbrev sScInit : Stmt := inClass (top 15) 0
abbrev sScAhead : Stmt := inClass (top 15) 1
abbrev sScTake : Stmt := inClass (top 15) 4
abbrev sKinds : Stmt := top 25
abbrev sRestOf : Stmt := top 26
abbrev sMade : Stmt := top 27
abbrev sPile : Stmt := top 28
abbrev sAlong : Stmt := top 29
abbrev sRight : Stmt := top 30
abbrev sJoined : Stmt := top 31
abbrev sNeedP : Stmt := top 32
abbrev sNeedB : Stmt := top 33
abbrev sPzInit : Stmt := inClass (top 34) 0
abbrev sIsRight : Stmt := top 35
abbrev sBoth : Stmt := top 36
abbrev sEither : Stmt := top 37
abbrev sTurned : Stmt := top 38
abbrev sWeft : Stmt := top 40
abbrev sThrow : Stmt := top 41
abbrev sOne : Stmt := top 42
abbrev sHeard : Stmt := top 43
abbrev sCount : Stmt := top 44
abbrev sTruth : Stmt := top 45
abbrev sCheck : Stmt := top 46
abbrev sRest : Stmt := top 47
abbrev sBehind : Stmt := top 48
abbrev sPiles : Stmt := top 49
abbrev sLIsR : Stmt := top 50
abbrev sLong : Stmt := top 51
abbrev sJR : Stmt := top 52
abbrev sLaw : Stmt := top 53
end Dt

set_option Elab.async false
set_option linter.all false
set_option maxRecDepth 100000
set_option maxHeartbeats 2000000
namespace Dt
open PySem PySem.Spec PyProof.Rows L2
/-- a def of the module: its promise, and where it stands -/
structure Df (P : Program) (w : World) (K : PySem.W.Frag) (mg : Str → Option Value) (base : Heap) (CX : CXT) (x : Str) (k : Nat) (ps : List Str) (sp : Sp) : Prop where
  ex : ∃ (f : Addr) (fd : FuncData), FnOk P w K mg base CX k f fd ps sp ∧ mg x = some (.ref f) ∧ PySem.W.keepIn K (.ref f) = true ∧ Binds K fd ps []
theorem pcD {X : Cx} {x : Str} {k j : Nat} {ps : List Str} {sp : Sp} {e : Expr} {es : List Expr} {t : TA} {p pos : Pos} (D : Df X.prog X.w X.K X.mg X.base CX0 x k ps sp) (hr : Room j X.A) (hjk : k ≤ j) (hg : Gl X x) (ha : PA X (e :: es) t)
    (hdb : (x == ("__debug__" : Str)) = false := by decide) (he : starEach (e :: es) X.env = (false, eval e X.env) :: starEach es X.env := by rfl) (hpl : (backTo pos (starEach es X.env)).any (·.1) = false := by rfl) :
    PE X (.Call (.Name x p) (e :: es) [] pos) (tCall sp [] E0 t) := by
  obtain ⟨f, fd, F, m, kp, b⟩ := D.ex
  exact pe_call F (hr.mono hjk) hg m kp b .nil pass0 ha hdb he hpl
/-- a name of the module that holds a number, a text -/
def GI (mg : Str → Option Value) (x : Str) (n : Int) : Prop := ∃ t, mg x = some (.int n t)
def GS (mg : Str → Option Value) (x : Str) (z : Str) : Prop := ∃ t, mg x = some (.str z t)
theorem pgI {X : Cx} {x : Str} {n : Int} {pos : Pos} (h : GI X.mg x n) (hg : Gl X x) (hd : (x == ("__debug__" : Str)) = false := by decide) : PE X (.Name x pos) (tC (.int n)) := by
  obtain ⟨t, e⟩ := h
  exact pe_glob hg e ⟨t, rfl⟩ hd
theorem pgS {X : Cx} {x z : Str} {pos : Pos} (h : GS X.mg x z) (hg : Gl X x) (hd : (x == ("__debug__" : Str)) = false := by decide) : PE X (.Name x pos) (tC (.str z)) := by
  obtain ⟨t, e⟩ := h
  exact pe_glob hg e ⟨t, rfl⟩ hd
/-- built-in names are still their own -/
structure Nm (mg : Str → Option Value) : Prop where
  isi : mg "isinstance" = none
  int : mg "int" = none
  bool : mg "bool" = none
  str : mg "str" = none
  len : mg "len" = none
  all : mg "all" = none
  abs : mg "abs" = none
  max : mg "max" = none
  tuple : mg "tuple" = none
  repr : mg "repr" = none
  range : mg "range" = none
  super : mg "super" = none
section
variable {P : Program} {w : World} {K : PySem.W.Frag} {mg : Str → Option Value} {base : Heap}
def spIsInt : Sp := fun vs H Q _ => ∃ i, vs = [.int i] ∧ Q (.bl true) H
theorem scIsInt : FnScope ["value"] ["value"] (defScope sIsInt) := ⟨rfl, rfl, rfl, by decide +kernel, rfl, by decide +kernel, by decide +kernel⟩
theorem ok_isInt {f : Addr} {fd : FuncData} (F : Fun K "is_integer" "is_integer" sIsInt f fd) (T : Nm mg) : FnOk P w K mg base CX0 1 f fd ["value"] spIsInt := by
  refine F.ok scIsInt (fun vs H Q E h => ?_) (fun cdv A outer s H vs Q E hr h => ?_)
  · obtain ⟨i, rfl, _⟩ := h
    rfl
  · obtain ⟨i, rfl, k⟩ := h
    have bI : bootBuiltins ("int" : Str) = some (.type "int") := by decide +kernel
    have bB : bootBuiltins ("bool" : Str) = some (.type "bool") := by decide +kernel
    refine ⟨_, pss_one (ps_ret (pe_and (pe_callB call_isi (by rfl) T.isi (by decide +kernel) (pa_cons (pv 0) (pa_cons (pe_bltn (v := .ty "int") (by rfl) T.int bI rfl) pa_nil)))
      (pe_one (pe_not (pe_callB call_isi (by rfl) T.isi (by decide +kernel) (pa_cons (pv 0) (pa_cons (pe_bltn (v := .ty "bool") (by rfl) T.bool bB rfl) pa_nil))))))), ?_⟩
    refine ⟨_, rfl, _, _, _, _, true, rfl, .ty _, .base (.int i), kit_ty (by decide +kernel), true, rfl, iteT ?_⟩
    refine ⟨_, rfl, _, _, _, _, false, rfl, .ty _, .base (.int i), kit_ty (by decide +kernel), false, rfl, ?_⟩
    exact k
def spWithin : Sp := fun vs H Q _ => ∃ v l m : Int, vs = [.int v, .int l, .int m] ∧ l ≤ v ∧ v ≤ m ∧ Q (.bl true) H
theorem scWithin : FnScope ["value", "least", "most"] ["value", "least", "most"] (defScope sWithin) := ⟨rfl, rfl, rfl, by decide +kernel, rfl, by decide +kernel, by decide +kernel⟩
theorem ok_within {f : Addr} {fd : FuncData} (F : Fun K "is_within" "is_within" sWithin f fd) (D1 : Df P w K mg base CX0 "is_integer" 1 ["value"] spIsInt) : FnOk P w K mg base CX0 2 f fd ["value", "least", "most"] spWithin := by
  refine F.ok scWithin (fun vs H Q E h => ?_) (fun cdv A outer s H vs Q E hr h => ?_)
  · obtain ⟨v, l, m, rfl, _⟩ := h
    rfl
  · obtain ⟨v, l, m, rfl, h1, h2, k⟩ := h
    refine ⟨_, pss_cons (ps_if (pt_not (pt_val (pcD D1 hr (by decide) (by rfl) (pa_cons (pv 0) pa_nil)))) pss_never pss_nil)
      (pss_one (ps_ret (pe_and (pe_or (pe_cmp (pc_isN (pv 1)) rfl) (pe_one (pe_cmp (pc_le (pv 1) (pv 0)) rfl))) (pe_one (pe_or (pe_cmp (pc_isN (pv 2)) rfl) (pe_one (pe_cmp (pc_le (pv 0) (pv 2)) rfl))))))), ?_⟩
    refine ⟨_, rfl, v, rfl, true, rfl, ?_⟩
    refine ⟨_, rfl, false, rfl, iteF ?_⟩
    refine ⟨_, rfl, _, rfl, l, v, rfl, rfl, ?_⟩
    refine ⟨true, by show V.bl (decide (l ≤ v)) = _; rw [decide_eq_true h1], iteT ?_⟩
    refine ⟨_, rfl, false, rfl, iteF ?_⟩
    refine ⟨_, rfl, _, rfl, v, m, rfl, rfl, ?_⟩
    show Q (.bl (decide (v ≤ m))) H
    rw [decide_eq_true h2]
    exact k
def spNeedNum : Sp := fun vs H Q _ => ∃ (v l m : Int) (p : V), vs = [.int v, p, .int l, .int m] ∧ l ≤ v ∧ v ≤ m ∧ Q .non H
theorem scNeedNum : FnScope ["value", "part", "least", "most"] ["value", "part", "least", "most"] (defScope sNeedNum) := ⟨rfl, rfl, rfl, by decide +kernel, rfl, by decide +kernel, by decide +kernel⟩
theorem ok_needNum {f : Addr} {fd : FuncData} (F : Fun K "need_number" "need_number" sNeedNum f fd) (D1 : Df P w K mg base CX0 "is_within" 2 ["value", "least", "most"] spWithin) : FnOk P w K mg base CX0 3 f fd ["value", "part", "least", "most"] spNeedNum := by
  refine F.ok scNeedNum (fun vs H Q E h => ?_) (fun cdv A outer s H vs Q E hr h => ?_)
  · obtain ⟨v, l, m, p, rfl, _⟩ := h
    rfl
  · obtain ⟨v, l, m, p, rfl, h1, h2, k⟩ := h
    refine ⟨_, pss_one (ps_if (pt_not (pt_val (pcD D1 hr (by decide) (by rfl) (pa_cons (pv 0) (pa_cons (pv 2) (pa_cons (pv 3) pa_nil)))))) pss_never pss_nil), ?_⟩
    refine ⟨_, rfl, _, rfl, _, rfl, v, l, m, rfl, h1, h2, true, rfl, ?_⟩
    exact k
end
end Dt

set_option Elab.async false
set_option linter.all false
set_option maxRecDepth 100000
set_option maxHeartbeats 2000000
namespace Dt
open PySem PySem.Spec PyProof.Rows L2
abbrev numT (k : Int) : Str := (toString k : String)
def figsOf (t : Str) : Str := if cutS t none (some 1) = "-" then cutS t (some 1) none else t
def wOk (k : Int) : Bool := let t := numT k
  decide (t.length ≤ 10) && (!decide (figsOf t = "")) && (figsOf t).cps.toList.all (fun c => decide (c ∈ (Str.ofString "0123456789").cps.toList)) && decide ((figsOf t).length ≤ 10) &&
  (match (figsOf t).cps.toList with | [] => false | c :: _ => !decide ((⟨#[c]⟩ : Str) = "0") || decide (t = "0")) && decide (PySem.intText? t = some k) && !decide (t = "a") && !decide (t = "n") && !decide (t = "not") &&
  !decide (t = "+") && !decide (t = "-") && !decide (t = "*") && !decide (t = "rem") && !decide (t = "=") && !decide (t = "<") && !decide (t = "and") && !decide (t = "or") && t.cps.toList.all (fun c => !decide (c = 32))
theorem wOk_all : ((List.range 91).all fun i => wOk ((i : Int) - 45)) = true := by decide +kernel
theorem wOk_at {k : Int} (h1 : -45 ≤ k) (h2 : k ≤ 45) : wOk k = true := by
  have h := List.all_eq_true.mp wOk_all (k + 45).toNat (List.mem_range.mpr (by omega))
  have e : (((k + 45).toNat : Nat) : Int) - 45 = k := by omega
  rw [e] at h
  exact h
end Dt

set_option Elab.async false
set_option linter.all false
set_option maxRecDepth 100000
set_option maxHeartbeats 2000000
namespace Dt
open PySem PySem.Spec PyProof.Rows L2
/-- over the signs of a text -/
theorem lc_signs {z : Str} {g : TG} {tt : TT} {te : TE} {vs : List Nat} {σ : L2.St} {H1 : Hp} {D : Addr} {Qd : Hp → Prop} (Pv : Nat → Hp → Prop) (h0 : Pv 0 (upd H1 D (.lst [])))
    (hs : ∀ i c H, z.cps[i]? = some c → Pv i H → g (.str ⟨#[c]⟩) (wipe σ vs) H fun σ2 H2 => wipe σ2 vs = wipe σ vs ∧ tt σ2 H2 fun b H3 =>
      if b = true then te σ2 H3 fun y H4 => ∃ acc, H4 D = some (.lst acc) ∧ acc.length < sizeLine ∧ Pv (i + 1) (upd H4 D (.lst (acc ++ [y]))) else Pv (i + 1) H3) (hd : ∀ H, Pv z.cps.size H → Qd H) :
    ∃ W : Nat → Nat → Hp → Prop, (∃ m, W 0 m (upd H1 D (.lst []))) ∧ ∀ i m H, W i m H →
      ((Its z).stop i H ∧ Qd H) ∨ ((Its z).go i H ∧ ∃ Nx : Hp → Prop, (∀ H', Nx H' → ∃ m', m' < m ∧ W (i + 1) m' H') ∧ ∀ x H', (Its z).yld i H x H' → g x (wipe σ vs) H' fun σ2 H2 => wipe σ2 vs = wipe σ vs ∧ tt σ2 H2 fun b H3 =>
        if b = true then te σ2 H3 fun y H4 => ∃ acc, H4 D = some (.lst acc) ∧ acc.length < sizeLine ∧ Nx (upd H4 D (.lst (acc ++ [y]))) else Nx H3) := by
  refine ⟨fun i m H => m = z.cps.size - i ∧ i ≤ z.cps.size ∧ Pv i H, ⟨z.cps.size, by simp, Nat.zero_le _, h0⟩, ?_⟩
  rintro i m H ⟨rfl, hi, p⟩
  by_cases hlt : i < z.cps.size
  · refine .inr ⟨hlt, Pv (i + 1), fun H' p' => ⟨z.cps.size - (i + 1), by omega, rfl, hlt, p'⟩, fun x H' y => ?_⟩
    obtain ⟨e, c, y, rfl⟩ := y
    subst e
    exact hs i c _ y p
  · have e : i = z.cps.size := by omega
    subst e
    exact .inl ⟨Nat.le_refl _, hd H p⟩
theorem iteC {c : Bool} {A B : Prop} (h1 : c = true → A) (h2 : c = false → B) : if c = true then A else B := by
  cases c with
  | true => exact iteT (h1 rfl)
  | false => exact iteF (h2 rfl)
structure WOk (k : Int) : Prop where
  len : (numT k).length ≤ 10
  ne : ¬ figsOf (numT k) = ""
  sig : ∀ c ∈ (figsOf (numT k)).cps.toList, c ∈ (Str.ofString "0123456789").cps.toList
  fl : (figsOf (numT k)).length ≤ 10
  c0 : ∃ c r, (figsOf (numT k)).cps.toList = c :: r ∧ ((⟨#[c]⟩ : Str) = "0" → numT k = "0")
  val : PySem.intText? (numT k) = some k
  na : ¬ numT k = "a"
  nn : ¬ numT k = "n"
  nnot : ¬ numT k = "not"
  nadd : ¬ numT k = "+"
  nsub : ¬ numT k = "-"
  nmul : ¬ numT k = "*"
  nrem : ¬ numT k = "rem"
  neq : ¬ numT k = "="
  nlt : ¬ numT k = "<"
  nand : ¬ numT k = "and"
  nor : ¬ numT k = "or"
  nsp : ∀ c ∈ (numT k).cps.toList, ¬ c = 32
theorem wOk_of {k : Int} (h1 : -45 ≤ k) (h2 : k ≤ 45) : WOk k := by
  have h := wOk_at h1 h2
  unfold wOk at h
  simp only [Bool.and_eq_true, Bool.not_eq_true', decide_eq_true_eq, decide_eq_false_iff_not, List.all_eq_true] at h
  obtain ⟨⟨⟨⟨⟨⟨⟨⟨⟨⟨⟨⟨⟨⟨⟨⟨⟨h1, h2⟩, h3⟩, h4⟩, h5⟩, h6⟩, h7⟩, h8⟩, h9⟩, h10⟩, h11⟩, h12⟩, h13⟩, h14⟩, h15⟩, h16⟩, h17⟩, h18⟩ := h
  refine ⟨h1, h2, h3, h4, ?_, h6, h7, h8, h9, h10, h11, h12, h13, h14, h15, h16, h17, h18⟩
  split at h5
  · cases h5
  · rename_i c r e
    refine ⟨c, r, e, fun q => ?_⟩
    simp only [Bool.or_eq_true, Bool.not_eq_true', decide_eq_true_eq, decide_eq_false_iff_not] at h5
    rcases h5 with z | z
    · exact absurd q z
    · exact z
structure TxG (mg : Str → Option Value) : Prop where
  figs : GS mg "FIGURES" "0123456789"
  mostF : GI mg "MOST_FIGURES" 140
section
variable {P : Program} {w : World} {K : PySem.W.Frag} {mg : Str → Option Value} {base : Heap}
def spWritten : Sp := fun vs H Q _ => ∃ k : Int, vs = [.str (numT k)] ∧ -45 ≤ k ∧ k ≤ 45 ∧ ∀ H', Same H H' → Q (.int k) H'
theorem scWritten : FnScope ["item", "figures", "sign"] ["item"] (defScope sWritten) := ⟨rfl, rfl, rfl, by decide +kernel, rfl, by decide +kernel, by decide +kernel⟩
theorem ok_written {f : Addr} {fd : FuncData} (F : Fun K "written" "written" sWritten f fd) (T : Nm mg) (G : TxG mg) : FnOk P w K mg base CX0 1 f fd ["item"] spWritten := by
  refine F.ok scWritten (fun vs H Q E h => ?_) (fun cdv A outer s H vs Q E hr h => ?_)
  · obtain ⟨k, rfl, _⟩ := h
    rfl
  · obtain ⟨k, rfl, h1, h2, q⟩ := h
    have W := wOk_of h1 h2
    have l10 : (10 : Nat) ≤ sizeLine := by decide
    refine ⟨_, pss_cons (ps_set (i := 1) scWritten.nd rfl (Or.inl rfl) (pe_ifExp (pt_cmpR op_eq (pe_slice sl_str (pv 0) po_none (po_some pe_int)) pe_str (nomark _)) (pe_slice sl_str (pv 0) (po_some pe_int) po_none) (pv 0)))
      (pss_cons (ps_if (PW.pt (pw_or (pt_cmpR op_eq (pv 1) pe_str (nomark _)) (pw_or (pt_cmpR op_gt (pe_callB call_len_str (by rfl) T.len PySem.boot_len (pa_cons (pv 1) pa_nil)) (pgI G.mostF (by rfl)) (nomark _))
          (pw_or1 (pt_not (pt_val (pe_callB (cr_all rfl) (by rfl) T.all (by decide +kernel) (pa_cons (pe_lc (own := [("sign", 2)]) (g := gName 2) (tt := tYes) rfl scWritten.nd (pi_str (pv 1)) (blkOk_by (N := ["item", "figures", "sign"]) (sc := defScope sWritten) (by decide +kernel))
            (fun _ _ _ _ _ => pg_name (i := 2) scWritten.nd rfl (Or.inl rfl)) (fun _ _ _ _ _ => pts_nil) (fun _ _ _ _ _ => pe_cmpR op_in_sign (pv 2) (pgS G.figs (by rfl)) (by rfl))) pa_nil)))))))) pss_never pss_nil)
      (pss_cons (ps_if (PW.pt (pw_and (pt_cmpR op_eq (pe_ix ix_str (pv 1) pe_int (fun _ _ => rfl)) pe_str (nomark _)) (pw_and1 (pt_cmpR op_ne (pv 0) pe_str (nomark _))))) pss_never pss_nil)
      (pss_one (ps_ret (pe_callTy call_int_str (by rfl) T.int boot_int (pa_cons (pv 0) pa_nil)))))), ?_⟩
    refine ⟨_, rfl, _, rfl, _, rfl, Nat.le_trans W.len l10, rfl, _, rfl, ?_⟩
    -- figures
    have key : ∀ (R : VK), R (.str (figsOf (numT k))) H → if decide (V.str (cutS (numT k) none (some 1)) = V.str "-") = true then tSl rSlS (tVar 0) (tPart (tC (.int 1))) tNoPart [some (.str (numT k)), none, none] H R else tVar 0 [some (.str (numT k)), none, none] H R := fun R hR => by
      rw [dec_str]
      by_cases e : cutS (numT k) none (some 1) = "-"
      · have e2 : figsOf (numT k) = cutS (numT k) (some 1) none := by unfold figsOf; rw [if_pos e]
        rw [if_pos (by simpa using e)]
        rw [e2] at hR
        exact ⟨_, rfl, _, rfl, _, rfl, Nat.le_trans W.len l10, hR⟩
      · have e2 : figsOf (numT k) = numT k := by unfold figsOf; rw [if_neg e]
        rw [if_neg (by simpa using e)]
        rw [e2] at hR
        exact ⟨_, rfl, hR⟩
    refine key _ ?_
    -- figures == ''
    refine ⟨_, rfl, rfl, _, rfl, ?_⟩
    rw [dec_str, show (figsOf (numT k) == ("" : Str)) = false from by simpa using W.ne]
    refine iteF ?_
    -- len(figures) > MOST_FIGURES
    refine ⟨_, rfl, _, rfl, Nat.le_trans W.fl l10, _, _, rfl, rfl, _, rfl, ?_⟩
    rw [show decide ((140 : Int) < ((figsOf (numT k)).length : Int)) = false from decide_eq_false (by have := W.fl; omega)]
    refine iteF ?_
    -- all([sign in FIGURES for sign in figures])
    refine ⟨_, rfl, _, rfl, fun D hD => lc_signs (z := figsOf (numT k)) (fun i H2 => Same H H2 ∧ H2 D = some (.lst ((List.replicate i true).map V.bl))) ⟨fun b o eb => by rw [upd_ne (ne_of_none eb hD)]; exact eb, upd_same⟩ (fun i c H2 hc ⟨sm, hl⟩ => ?_) (fun H2 ⟨sm, hl⟩ => ?_)⟩
    · have hi : i < (figsOf (numT k)).cps.size := by
        by_cases z : i < (figsOf (numT k)).cps.size
        · exact z
        · rw [Array.getElem?_eq_none (by omega)] at hc
          cases hc
      have hm : c ∈ (Str.ofString "0123456789").cps.toList := W.sig c (by rw [Array.mem_toList_iff]; exact Array.mem_of_getElem? hc)
      refine ⟨rfl, ?_⟩
      refine ⟨_, rfl, c, _, rfl, rfl, _, hl, ?_, ?_⟩
      · have h3 : (figsOf (numT k)).cps.size ≤ 10 := W.fl
        refine small1000 ?_
        simp
        omega
      · refine ⟨fun b o eb => by rw [upd_ne (ne_of_none eb hD)]; exact sm b o eb, ?_⟩
        rw [upd_same, List.replicate_succ', List.map_append, decide_eq_true hm]
        rfl
    · refine ⟨D, _, rfl, .inl (.inl hl), _, rfl, ?_⟩
      have e1 : (List.replicate (figsOf (numT k)).cps.size true).all id = true := by simp
      rw [e1]
      refine iteF ?_
      -- figures[0] == '0' and item != '0'
      obtain ⟨c0, r0, ec, hc0⟩ := W.c0
      refine ⟨_, rfl, _, 0, c0, rfl, rfl, Nat.le_trans W.fl l10, ?_, rfl, _, rfl, ?_⟩
      · show atI (figsOf (numT k)).cps.toList ((0 : Nat) : Int) = some c0
        exact atI_nat (by rw [ec]; rfl)
      · rw [dec_str]
        refine iteC (fun z => ?_) (fun z => ?_)
        · refine ⟨_, rfl, rfl, _, rfl, ?_⟩
          rw [dec_str, show (numT k == ("0" : Str)) = true from by simpa using hc0 (by simpa using z)]
          refine iteF ?_
          exact ⟨_, rfl, _, _, rfl, W.val, Nat.le_trans W.len (by decide), q _ sm⟩
        · refine iteF ?_
          exact ⟨_, rfl, _, _, rfl, W.val, Nat.le_trans W.len (by decide), q _ sm⟩
end
end Dt

set_option Elab.async false
set_option linter.all false
set_option maxRecDepth 100000
set_option maxHeartbeats 2000000
/-! The drawn checks as lists of items, their run over kinds and over values. -/
namespace Dt
open PySem PySem.Spec PyProof.Rows L2
inductive Op where
  | add | sub | mul | rem | eq | lt | and | or
deriving DecidableEq
inductive Tk where
  | a | n
  | num (k : Int)
  | op (o : Op)
  | not
inductive Kd where
  | num | tru
deriving DecidableEq
def Op.txt : Op → Str
  | .add => "+" | .sub => "-" | .mul => "*" | .rem => "rem" | .eq => "=" | .lt => "<" | .and => "and" | .or => "or"
def Op.takes : Op → Kd
  | .and => .tru | .or => .tru | _ => .num
def Op.makes : Op → Kd
  | .add => .num | .sub => .num | .mul => .num | .rem => .num | _ => .tru
def Tk.txt : Tk → Str
  | .a => "a" | .n => "n" | .num k => numT k | .op o => o.txt | .not => "not"
def Tk.ok : Tk → Prop
  | .num k => -45 ≤ k ∧ k ≤ 45
  | _ => True
def Kd.txt : Kd → Str
  | .num => "number" | .tru => "truth"
abbrev Kd.v (k : Kd) : V := .str k.txt
def remI (x y : Int) : Int := if y = 0 then x else x.fmod (if y < 0 then -y else y)
/-- one item over the kinds -/
inductive StepK : List Kd → Tk → List Kd → Prop
  | a {ks : List Kd} : ks.length < 20 → StepK ks .a (ks ++ [.num])
  | n {ks : List Kd} : ks.length < 20 → StepK ks .n (ks ++ [.num])
  | num {ks : List Kd} {k : Int} : -45 ≤ k → k ≤ 45 → ks.length < 20 → StepK ks (.num k) (ks ++ [.num])
  | op {ks : List Kd} (o : Op) : ks.length + 2 ≤ 20 → StepK (ks ++ [o.takes, o.takes]) (.op o) (ks ++ [o.makes])
  | not {ks : List Kd} : ks.length + 1 ≤ 20 → StepK (ks ++ [.tru]) .not (ks ++ [.tru])
abbrev sm (x : Int) : Prop := x.natAbs ≤ 4100625
/-- one item over the values -/
inductive StepV (g a : Int) : List V → Tk → List V → Prop
  | a {ps : List V} : ps.length < 20 → StepV g a ps .a (ps ++ [.int a])
  | n {ps : List V} : ps.length < 20 → StepV g a ps .n (ps ++ [.int g])
  | num {ps : List V} {k : Int} : -45 ≤ k → k ≤ 45 → ps.length < 20 → StepV g a ps (.num k) (ps ++ [.int k])
  | add {ps : List V} {x y : Int} : ps.length + 2 ≤ 20 → sm x → sm y → StepV g a (ps ++ [.int x, .int y]) (.op .add) (ps ++ [.int (x + y)])
  | sub {ps : List V} {x y : Int} : ps.length + 2 ≤ 20 → sm x → sm y → StepV g a (ps ++ [.int x, .int y]) (.op .sub) (ps ++ [.int (x - y)])
  | mul {ps : List V} {x y : Int} : ps.length + 2 ≤ 20 → sm x → sm y → StepV g a (ps ++ [.int x, .int y]) (.op .mul) (ps ++ [.int (x * y)])
  | rem {ps : List V} {x y : Int} : ps.length + 2 ≤ 20 → sm x → sm y → StepV g a (ps ++ [.int x, .int y]) (.op .rem) (ps ++ [.int (remI x y)])
  | eq {ps : List V} {x y : Int} : ps.length + 2 ≤ 20 → sm x → sm y → StepV g a (ps ++ [.int x, .int y]) (.op .eq) (ps ++ [.bl (decide (x = y))])
  | lt {ps : List V} {x y : Int} : ps.length + 2 ≤ 20 → sm x → sm y → StepV g a (ps ++ [.int x, .int y]) (.op .lt) (ps ++ [.bl (decide (x < y))])
  | and {ps : List V} {x y : Bool} : ps.length + 2 ≤ 20 → StepV g a (ps ++ [.bl x, .bl y]) (.op .and) (ps ++ [.bl (x && y)])
  | or {ps : List V} {x y : Bool} : ps.length + 2 ≤ 20 → StepV g a (ps ++ [.bl x, .bl y]) (.op .or) (ps ++ [.bl (x || y)])
  | not {ps : List V} {x : Bool} : ps.length + 1 ≤ 20 → StepV g a (ps ++ [.bl x]) .not (ps ++ [.bl (!x)])
inductive Run {α : Type} (S : List α → Tk → List α → Prop) : List α → List Tk → List α → Prop
  | nil (p : List α) : Run S p [] p
  | cons {p q r : List α} {t : Tk} {ts : List Tk} : S p t q → Run S q ts r → Run S p (t :: ts) r
section
variable {α : Type} {S : List α → Tk → List α → Prop}
theorem Run.app {p q r : List α} {ts us : List Tk} (h : Run S p ts q) (k : Run S q us r) : Run S p (ts ++ us) r := by
  induction h with
  | nil p => exact k
  | cons h1 _ ih => exact .cons h1 (ih k)
theorem Run.one {p q : List α} {t : Tk} (h : S p t q) : Run S p [t] q := .cons h (.nil _)
end
theorem StepK.len {ks ks' : List Kd} {t : Tk} (h : StepK ks t ks') : ks.length ≤ 20 ∧ ks'.length ≤ 20 ∧ t.ok := by
  cases h <;> simp [Tk.ok] <;> omega
theorem StepV.len {g a : Int} {ps ps' : List V} {t : Tk} (h : StepV g a ps t ps') : ps.length ≤ 20 ∧ ps'.length ≤ 20 ∧ t.ok := by
  cases h <;> simp [Tk.ok] <;> omega
/-- a drawn number's items -/
inductive CountT : Nat → List Tk → Prop
  | leaf {d : Nat} {t : Tk} : (t = .a ∨ t = .n ∨ ∃ k : Int, t = .num k ∧ -45 ≤ k ∧ k ≤ 45) → CountT d [t]
  | bin {d : Nat} {s1 s2 : List Tk} {o : Op} : CountT d s1 → CountT d s2 → (o = .add ∨ o = .sub ∨ o = .mul ∨ o = .rem) → CountT (d + 1) (s1 ++ s2 ++ [.op o])
theorem CountT.mono {d : Nat} {s : List Tk} (h : CountT d s) : CountT (d + 1) s := by
  induction h with
  | leaf h => exact .leaf h
  | bin _ _ ho i1 i2 => exact .bin i1 i2 ho
theorem CountT.le {d e : Nat} {s : List Tk} (h : CountT d s) (hd : d ≤ e) : CountT e s := by
  induction hd with
  | refl => exact h
  | step _ ih => exact ih.mono
/-- a drawn check's items -/
inductive TruthT : Nat → List Tk → Prop
  | cmp {d : Nat} {s1 s2 : List Tk} {o : Op} : CountT 2 s1 → CountT 2 s2 → (o = .eq ∨ o = .lt) → TruthT d (s1 ++ s2 ++ [.op o])
  | bin {d : Nat} {s1 s2 : List Tk} {o : Op} : TruthT d s1 → TruthT d s2 → (o = .and ∨ o = .or) → TruthT (d + 1) (s1 ++ s2 ++ [.op o])
  | neg {d : Nat} {s : List Tk} : TruthT d s → TruthT d (s ++ [.not])
theorem TruthT.mono {d : Nat} {s : List Tk} (h : TruthT d s) : TruthT (d + 1) s := by
  induction h with
  | cmp h1 h2 ho => exact .cmp h1 h2 ho
  | bin _ _ ho i1 i2 => exact .bin i1 i2 ho
  | neg _ ih => exact .neg ih
theorem TruthT.le {d e : Nat} {s : List Tk} (h : TruthT d s) (hd : d ≤ e) : TruthT e s := by
  induction hd with
  | refl => exact h
  | step _ ih => exact ih.mono
theorem CountT.ne {d : Nat} {s : List Tk} (h : CountT d s) : s ≠ [] := by
  cases h <;> simp
theorem TruthT.ne {d : Nat} {s : List Tk} (h : TruthT d s) : s ≠ [] := by
  cases h <;> simp
theorem TruthT.nots {d : Nat} {s : List Tk} (h : TruthT d s) : ∀ m, TruthT d (s ++ List.replicate m .not)
  | 0 => by simpa using h
  | m + 1 => by
    rw [List.replicate_succ', ← List.append_assoc]
    exact .neg (h.nots m)
/-! ### kinds -/
theorem CountT.kinds {d : Nat} {s : List Tk} (h : CountT d s) : ∀ ks : List Kd, ks.length + d + 1 ≤ 20 → Run StepK ks s (ks ++ [.num]) := by
  induction h with
  | leaf h =>
    intro ks hl
    rcases h with rfl | rfl | ⟨k, rfl, h1, h2⟩
    · exact .one (.a (by omega))
    · exact .one (.n (by omega))
    · exact .one (.num h1 h2 (by omega))
  | @bin d s1 s2 o _ _ ho i1 i2 =>
    intro ks hl
    refine ((i1 ks (by omega)).app (i2 (ks ++ [.num]) (by simp; omega))).app ?_
    have st := StepK.op (ks := ks) o (by omega)
    rcases ho with rfl | rfl | rfl | rfl <;> (rw [List.append_assoc]; exact .one st)
theorem TruthT.kinds {d : Nat} {s : List Tk} (h : TruthT d s) : ∀ ks : List Kd, ks.length + d + 4 ≤ 20 → Run StepK ks s (ks ++ [.tru]) := by
  induction h with
  | @cmp d s1 s2 o h1 h2 ho =>
    intro ks hl
    refine ((h1.kinds ks (by omega)).app (h2.kinds (ks ++ [.num]) (by simp; omega))).app ?_
    have st := StepK.op (ks := ks) o (by omega)
    rcases ho with rfl | rfl <;> (rw [List.append_assoc]; exact .one st)
  | @bin d s1 s2 o _ _ ho i1 i2 =>
    intro ks hl
    refine ((i1 ks (by omega)).app (i2 (ks ++ [.tru]) (by simp; omega))).app ?_
    have st := StepK.op (ks := ks) o (by omega)
    rcases ho with rfl | rfl <;> (rw [List.append_assoc]; exact .one st)
  | neg _ ih =>
    intro ks hl
    exact (ih ks hl).app (.one (.not (by omega)))
/-! ### values -/
def Bd : Nat → Nat
  | 0 => 45
  | d + 1 => Bd d * Bd d
theorem Bd_ge : ∀ d, 45 ≤ Bd d
  | 0 => Nat.le_refl _
  | d + 1 => by
    have h := Bd_ge d
    show 45 ≤ Bd d * Bd d
    exact Nat.le_trans h (Nat.le_mul_of_pos_left _ (by omega))
theorem remI_abs {x y : Int} {b : Nat} (hx : x.natAbs ≤ b) (hy : y.natAbs ≤ b) : (remI x y).natAbs ≤ b := by
  unfold remI
  by_cases h : y = 0
  · rw [if_pos h]
    exact hx
  · rw [if_neg h]
    have hz : (0 : Int) < (if y < 0 then -y else y) := by split <;> omega
    have hzb : (if y < 0 then -y else y) ≤ (b : Int) := by split <;> omega
    generalize (if y < 0 then -y else y) = z at hz hzb
    have e : x.fmod z = x % z := Int.fmod_eq_emod_of_nonneg x (by omega)
    rw [e]
    have h1 := Int.emod_nonneg x (by omega : z ≠ 0)
    have h2 := Int.emod_lt_of_pos x hz
    omega
theorem CountT.vals {g a : Int} (hg : g.natAbs ≤ 45) (ha : a.natAbs ≤ 45) {d : Nat} {s : List Tk} (h : CountT d s) (hd : d ≤ 2) : ∃ v : Int, v.natAbs ≤ Bd d ∧ ∀ ps : List V, ps.length + d + 1 ≤ 20 → Run (StepV g a) ps s (ps ++ [.int v]) := by
  induction h with
  | @leaf d t h =>
    have hb := Bd_ge d
    rcases h with rfl | rfl | ⟨k, rfl, h1, h2⟩
    · exact ⟨a, by omega, fun ps hl => .one (.a (by omega))⟩
    · exact ⟨g, by omega, fun ps hl => .one (.n (by omega))⟩
    · exact ⟨k, by omega, fun ps hl => .one (.num h1 h2 (by omega))⟩
  | @bin d s1 s2 o _ _ ho i1 i2 =>
    obtain ⟨x, hx, r1⟩ := i1 (by omega)
    obtain ⟨y, hy, r2⟩ := i2 (by omega)
    have hb := Bd_ge d
    have hB : Bd d * 2 ≤ Bd d * Bd d := Nat.mul_le_mul_left _ (by omega)
    have sB : Bd d ≤ 4100625 := by
      have : d = 0 ∨ d = 1 := by omega
      rcases this with rfl | rfl <;> decide
    have sx : sm x := Nat.le_trans hx sB
    have sy : sm y := Nat.le_trans hy sB
    have go : ∀ (v : Int), (∀ ps : List V, ps.length + 2 ≤ 20 → StepV g a (ps ++ [.int x, .int y]) (.op o) (ps ++ [.int v])) → ∀ ps : List V, ps.length + (d + 1) + 1 ≤ 20 → Run (StepV g a) ps (s1 ++ s2 ++ [.op o]) (ps ++ [.int v]) := fun v hv ps hl => by
      refine ((r1 ps (by omega)).app (r2 (ps ++ [.int x]) (by simp; omega))).app ?_
      rw [List.append_assoc]
      exact .one (hv ps (by omega))
    show ∃ v : Int, v.natAbs ≤ Bd d * Bd d ∧ _
    rcases ho with rfl | rfl | rfl | rfl
    · exact ⟨x + y, by omega, go _ fun ps hl => .add hl sx sy⟩
    · exact ⟨x - y, by omega, go _ fun ps hl => .sub hl sx sy⟩
    · exact ⟨x * y, by rw [Int.natAbs_mul]; exact Nat.mul_le_mul hx hy, go _ fun ps hl => .mul hl sx sy⟩
    · exact ⟨remI x y, Nat.le_trans (remI_abs hx hy) (Nat.le_mul_of_pos_left _ (by omega)), go _ fun ps hl => .rem hl sx sy⟩
theorem TruthT.vals {g a : Int} (hg : g.natAbs ≤ 45) (ha : a.natAbs ≤ 45) {d : Nat} {s : List Tk} (h : TruthT d s) : ∃ r : Bool, ∀ ps : List V, ps.length + d + 4 ≤ 20 → Run (StepV g a) ps s (ps ++ [.bl r]) := by
  induction h with
  | @cmp d s1 s2 o h1 h2 ho =>
    obtain ⟨x, hx, r1⟩ := h1.vals hg ha (Nat.le_refl _)
    obtain ⟨y, hy, r2⟩ := h2.vals hg ha (Nat.le_refl _)
    have sx : sm x := hx
    have sy : sm y := hy
    have go : ∀ (v : Bool), (∀ ps : List V, ps.length + 2 ≤ 20 → StepV g a (ps ++ [.int x, .int y]) (.op o) (ps ++ [.bl v])) → ∀ ps : List V, ps.length + d + 4 ≤ 20 → Run (StepV g a) ps (s1 ++ s2 ++ [.op o]) (ps ++ [.bl v]) := fun v hv ps hl => by
      refine ((r1 ps (by omega)).app (r2 (ps ++ [.int x]) (by simp; omega))).app ?_
      rw [List.append_assoc]
      exact .one (hv ps (by omega))
    rcases ho with rfl | rfl
    · exact ⟨_, go _ fun ps hl => .eq hl sx sy⟩
    · exact ⟨_, go _ fun ps hl => .lt hl sx sy⟩
  | @bin d s1 s2 o _ _ ho i1 i2 =>
    obtain ⟨x, r1⟩ := i1
    obtain ⟨y, r2⟩ := i2
    have go : ∀ (v : Bool), (∀ ps : List V, ps.length + 2 ≤ 20 → StepV g a (ps ++ [.bl x, .bl y]) (.op o) (ps ++ [.bl v])) → ∀ ps : List V, ps.length + (d + 1) + 4 ≤ 20 → Run (StepV g a) ps (s1 ++ s2 ++ [.op o]) (ps ++ [.bl v]) := fun v hv ps hl => by
      refine ((r1 ps (by omega)).app (r2 (ps ++ [.bl x]) (by simp; omega))).app ?_
      rw [List.append_assoc]
      exact .one (hv ps (by omega))
    rcases ho with rfl | rfl
    · exact ⟨_, go _ fun ps hl => .and hl⟩
    · exact ⟨_, go _ fun ps hl => .or hl⟩
  | neg _ ih =>
    obtain ⟨x, r⟩ := ih
    exact ⟨!x, fun ps hl => (r ps hl).app (.one (.not (by omega)))⟩
/-- the answers of both, of the joined, of the turned -/
structure Ans (g a : Int) (s : List Tk) (r : Bool) : Prop where
  run : ∀ ps : List V, ps.length + 6 ≤ 20 → Run (StepV g a) ps s (ps ++ [.bl r])
theorem TruthT.ans {g a : Int} (hg : g.natAbs ≤ 45) (ha : a.natAbs ≤ 45) {s : List Tk} (h : TruthT 2 s) : ∃ r : Bool, Ans g a s r := by
  obtain ⟨r, hr⟩ := h.vals hg ha
  exact ⟨r, ⟨hr⟩⟩
theorem Ans.top {g a : Int} {s : List Tk} {r : Bool} (h : Ans g a s r) : Run (StepV g a) [] s [.bl r] := h.run [] (by simp)
theorem Ans.both {g a : Int} {s1 s2 : List Tk} {x y : Bool} (h1 : Ans g a s1 x) (h2 : Ans g a s2 y) : Run (StepV g a) [] (s1 ++ s2 ++ [.op .and]) [.bl (x && y)] :=
  ((h1.run [] (by simp)).app (h2.run [.bl x] (by simp))).app (.one (StepV.and (ps := []) (by simp)))
theorem Ans.either {g a : Int} {s1 s2 : List Tk} {x y : Bool} (h1 : Ans g a s1 x) (h2 : Ans g a s2 y) : Run (StepV g a) [] (s1 ++ s2 ++ [.op .or]) [.bl (x || y)] :=
  ((h1.run [] (by simp)).app (h2.run [.bl x] (by simp))).app (.one (StepV.or (ps := []) (by simp)))
theorem Ans.turned {g a : Int} {s : List Tk} {x : Bool} (h : Ans g a s x) : Run (StepV g a) [] (s ++ [.not]) [.bl (!x)] :=
  (h.run [] (by simp)).app (.one (StepV.not (ps := []) (by simp)))
end Dt

set_option Elab.async false
set_option linter.all false
set_option maxRecDepth 100000
set_option maxHeartbeats 2000000
namespace Dt
open PySem PySem.Spec PyProof.Rows L2
/-! ### cuts -/
theorem cut_pre (xs ys : List V) {i : Int} (hi : i = (xs.length : Int)) : cutV (xs ++ ys) none (some i) = xs := by
  subst hi
  unfold cutV
  rw [HT.sIx_none, HT.sIx_nat]
  have e : min xs.length (xs ++ ys).length - 0 = xs.length := by rw [List.length_append]; omega
  rw [e, List.drop_zero, List.take_left']
  rfl
theorem cut_suf (xs ys : List V) {i : Int} (hi : i = (xs.length : Int)) : cutV (xs ++ ys) (some i) none = ys := by
  subst hi
  unfold cutV
  rw [HT.sIx_none, HT.sIx_nat]
  have e : min xs.length (xs ++ ys).length = xs.length := by rw [List.length_append]; omega
  rw [e, List.drop_left', List.take_of_length_le]
  · rw [List.length_append]; omega
  · rfl
theorem sIx_neg {n d k : Nat} (h0 : 0 < k) (hk : k ≤ n) : HT.sIx n d (some (-(k : Int))) = n - k := by
  show (if -(k : Int) < 0 then (-(k : Int) + (n : Int)).toNat else min (-(k : Int)).toNat n) = n - k
  rw [if_pos (by omega)]
  omega
theorem cut_back (xs ys : List V) {k : Nat} (hk : ys.length = k) (h0 : 0 < k) : cutV (xs ++ ys) none (some (-(k : Int))) = xs := by
  unfold cutV
  rw [HT.sIx_none, sIx_neg h0 (by rw [List.length_append]; omega)]
  have e : (xs ++ ys).length - k - 0 = xs.length := by rw [List.length_append]; omega
  rw [e, List.drop_zero, List.take_left']
  rfl
/-- a tuple of the written part -/
def KT (K : PySem.W.Frag) (a : Addr) (xs : List V) : Prop := ∃ (o : Obj) (its : Array Value) (n : Nat), K.lookup a = some o ∧ o.cls = .type "tuple" ∧ o.data = .seq its n ∧ its.size ≤ sizeLine ∧ Vals xs its.toList
theorem KT.sq {K : PySem.W.Frag} {H : Hp} {a : Addr} {xs : List V} (h : KT K a xs) : SqT K H a xs := .inr h
theorem dpK {K : PySem.W.Frag} {H : Hp} : ∀ ks : List Kd, DpAll K H (ks.map Kd.v) (ks.map fun k => .str k.txt)
  | [] => .nil
  | k :: ks => .cons (.str _) (dpK ks)
/-- d[key], a written dict with text keys -/
theorem pe_dkd {X : Cx} {d : Addr} {es : Array DictEntry} {n : Nat} {o i : Expr} {td ty : TE} {pos : Pos} (D : KDict X.K X.w d es n) (ho : PE X o td) (hi : PE X i ty) (hs : NoSl i) :
    PE X (.Subscript o i pos) (tOp (fun x y H Q => ∃ (z : Str) (u0 : Value) (v0 : V), x = .ref d ∧ y = .str z ∧ PySem.W.nsIn X.K d z = some (some u0) ∧ RelV v0 u0 ∧ Q v0 H) td ty) := by
  refine ⟨fun pins s σ H Q I h => ?_⟩
  refine subD_of PySem.F.slot_dict_getitem.lookup hs (thn (ho.run pins s σ H _ I h) fun u s1 ⟨x, H1, I1, rx, q1⟩ => thn (hi.run pins s1 σ H1 _ I1 q1) fun iv s2 ⟨y, H2, I2, ry, q2⟩ => ?_)
  have h2 := op_item_kd D pins s2 σ H2 x y u iv Q I2 rx ry q2
  obtain ⟨z, u0, v0, rfl, rfl, _⟩ := q2
  obtain rfl : u = Value.ref d := rx
  exact ⟨kd_type D I2, h2⟩
/-- the module's table of items -/
structure DeedG (K : PySem.W.Frag) (w : World) (mg : Str → Option Value) : Prop where
  ex : ∃ (D : Addr) (es : Array DictEntry) (n : Nat), mg "DEEDS" = some (.ref D) ∧ KDict K w D es n ∧
    (∀ o : Op, ∃ pa ta, PySem.W.nsIn K D o.txt = some (some (.ref pa)) ∧ KT K pa [.ref ta, o.makes.v] ∧ KT K ta [o.takes.v, o.takes.v]) ∧
    (∃ pa ta, PySem.W.nsIn K D "not" = some (some (.ref pa)) ∧ KT K pa [.ref ta, Kd.tru.v] ∧ KT K ta [Kd.tru.v]) ∧
    PySem.W.nsIn K D "a" = some none ∧ PySem.W.nsIn K D "n" = some none ∧ ∀ k : Int, -45 ≤ k → k ≤ 45 → PySem.W.nsIn K D (numT k) = some none
structure PzG (mg : Str → Option Value) : Prop where
  items : GI mg "MOST_ITEMS" 40
  pile : GI mg "MOST_PILE" 20
  numb : GI mg "MOST_NUMBER" (10 ^ 18)
  num : GS mg "NUMBER" "number"
  tru : GS mg "TRUTH" "truth"
  ans : GS mg "ANSWER" "a"
  giv : GS mg "GIVEN" "n"
theorem bl_t {p : Prop} [Decidable p] (h : p) : V.bl (decide p) = V.bl true := by rw [decide_eq_true h]
theorem bl_f {p : Prop} [Decidable p] (h : ¬ p) : V.bl (decide p) = V.bl false := by rw [decide_eq_false h]
section
variable {P : Program} {w : World} {K : PySem.W.Frag} {mg : Str → Option Value} {base : Heap}
def spKinds : Sp := fun vs H Q _ => ∃ (p : Addr) (ks ks' : List Kd) (t : Tk), vs = [.ref p, .str t.txt] ∧ H p = some (.tup (ks.map Kd.v)) ∧ StepK ks t ks' ∧ ∀ p' H', Same H H' → H' p' = some (.tup (ks'.map Kd.v)) → Q (.ref p') H'
theorem scKinds : FnScope ["kinds", "item", "taken", "made", "rest"] ["kinds", "item"] (defScope sKinds) := ⟨rfl, rfl, rfl, by decide +kernel, rfl, by decide +kernel, by decide +kernel⟩
theorem ok_kinds {f : Addr} {fd : FuncData} (F : Fun K "kinds_behind" "kinds_behind" sKinds f fd) (T : Nm mg) (G : DeedG K w mg) (Z : PzG mg) (D1 : Df P w K mg base CX0 "written" 1 ["item"] spWritten) (D2 : Df P w K mg base CX0 "is_within" 2 ["value", "least", "most"] spWithin) : FnOk P w K mg base CX0 3 f fd ["kinds", "item"] spKinds := by
  refine F.ok scKinds (fun vs H Q E h => ?_) (fun cdv A outer s H vs Q E hr h => ?_)
  · obtain ⟨p, ks, ks', t, rfl, _⟩ := h
    rfl
  · obtain ⟨p, ks, ks', t, rfl, hp, st, q⟩ := h
    obtain ⟨D, es, n, mD, KD, gO, gN, gA, gG, gK⟩ := G.ex
    refine ⟨_, pss_cons (ps_if (pt_cmpR (op_in_kd KD) (pv 1) (pe_glob (v := .ref D) (by rfl) mD rfl) (by rfl))
        (pss_cons (ps_asg (pe_dkd KD (pe_glob (v := .ref D) (by rfl) mD rfl) (pv 1) (fun _ _ => rfl)) (pg_tup (by rfl) (pgs_cons (pg_name (i := 2) scKinds.nd rfl (.inl rfl)) (pgs_cons (pg_name (i := 3) scKinds.nd rfl (.inl rfl)) pgs_nil))))
        (pss_cons (ps_set (i := 4) scKinds.nd rfl (Or.inl rfl) (pe_op op_sub (pe_callB call_len (by rfl) T.len PySem.boot_len (pa_cons (pv 0) pa_nil)) (pe_callB call_len (by rfl) T.len PySem.boot_len (pa_cons (pv 2) pa_nil))))
        (pss_one (ps_ret (pe_ifExp (PW.pt (pw_and (pt_cmpR op_ge (pv 4) pe_int (nomark _)) (pw_and1 (pt_cmpR (op_eqD hr.units) (pe_slice sl_tupA (pv 0) (po_some (pv 4)) po_none) (pv 2) (nomark _)))))
          (pe_tup (StX.pa_star (pe_slice sl_tupA (pv 0) po_none (po_some (pv 4))) (pa_cons (pv 3) pa_nil))) pe_non))))) pss_nil)
      (pss_cons (ps_if (PW.pt (pw_or (pt_cmpR op_in_seq (pv 1) (pe_tup (pa_cons (pgS Z.ans (by rfl)) (pa_cons (pgS Z.giv (by rfl)) pa_nil))) (by rfl)) (pw_or1 (pt_val (pcD D2 hr (by decide) (by rfl) (pa_cons (pcD D1 hr (by decide) (by rfl) (pa_cons (pv 1) pa_nil)) (pa_cons (pe_un un_neg (pgI Z.numb (by rfl))) (pa_cons (pgI Z.numb (by rfl)) pa_nil))))))))
          (pss_one (ps_ret (pe_ifExp (pt_cmpR op_lt (pe_callB call_len (by rfl) T.len PySem.boot_len (pa_cons (pv 0) pa_nil)) (pgI Z.pile (by rfl)) (nomark _)) (pe_tup (StX.pa_star (pv 0) (pa_cons (pgS Z.num (by rfl)) pa_nil))) pe_non))) pss_nil)
      pss_never), ?_⟩
    have l20 : (20 : Nat) ≤ sizeLine := by decide
    obtain ⟨hL1, hL2, hok⟩ := st.len
    have two : (∃ (pa ta : Addr) (ks0 tk : List Kd) (mk : Kd), ks = ks0 ++ tk ∧ ((∃ k, tk = [k, k]) ∨ tk = [.tru]) ∧ ks' = ks0 ++ [mk] ∧ PySem.W.nsIn K D t.txt = some (some (.ref pa)) ∧ KT K pa [.ref ta, mk.v] ∧ KT K ta (tk.map Kd.v)) ∨
        (ks' = ks ++ [.num] ∧ ks.length < 20 ∧ PySem.W.nsIn K D t.txt = some none ∧ ((t.txt = "a" ∨ t.txt = "n") ∨ ∃ k : Int, t.txt = numT k ∧ -45 ≤ k ∧ k ≤ 45)) := by
      cases st with
      | a h => exact .inr ⟨rfl, h, gA, .inl (.inl rfl)⟩
      | n h => exact .inr ⟨rfl, h, gG, .inl (.inr rfl)⟩
      | num h1 h2 h => exact .inr ⟨rfl, h, gK _ h1 h2, .inr ⟨_, rfl, h1, h2⟩⟩
      | @op ks0 o h =>
        obtain ⟨pa, ta, e1, e2, e3⟩ := gO o
        exact .inl ⟨pa, ta, ks0, [o.takes, o.takes], o.makes, rfl, .inl ⟨_, rfl⟩, rfl, e1, e2, e3⟩
      | @not ks0 h =>
        obtain ⟨pa, ta, e1, e2, e3⟩ := gN
        exact .inl ⟨pa, ta, ks0, [.tru], .tru, rfl, .inr rfl, rfl, e1, e2, e3⟩
    rcases two with ⟨pa, ta, ks0, tk, mk, ek, h0, ek', e1, e2, e3⟩ | ⟨ek', hl, e1, ht⟩
    · -- an item of the table
      have eV : ks.map Kd.v = ks0.map Kd.v ++ tk.map Kd.v := by rw [ek, List.map_append]
      have eL : ks.length = ks0.length + tk.length := by rw [ek, List.length_append]
      refine ⟨_, rfl, _, _, rfl, rfl, e1, _, rfl, ?_⟩
      refine iteT ?_
      refine ⟨_, rfl, _, _, .ref pa, rfl, rfl, e1, rfl, ?_⟩
      refine ⟨pa, _, rfl, e2.sq, rfl, _, _, rfl, _, _, rfl, rfl, ?_⟩
      -- rest
      refine ⟨_, rfl, _, ks.length, rfl, .inr ⟨_, SqT.of hp, by simp⟩, _, rfl, _, tk.length, rfl, .inr ⟨_, e3.sq, by simp⟩, _, _, rfl, rfl, ?_⟩
      have er : (ks.length : Int) - (tk.length : Int) = ((ks0.map Kd.v).length : Int) := by rw [List.length_map]; omega
      refine ⟨_, rfl, _, _, rfl, rfl, true, bl_t (by show (0 : Int) ≤ (ks.length : Int) - (tk.length : Int); omega), iteT ?_⟩
      -- kinds[rest:]
      have hsl : cutV (ks.map Kd.v) (some ((ks.length : Int) - (tk.length : Int))) none = tk.map Kd.v := by rw [eV]; exact cut_suf _ _ er
      have hpr : cutV (ks.map Kd.v) none (some ((ks.length : Int) - (tk.length : Int))) = ks0.map Kd.v := by rw [eV]; exact cut_pre _ _ er
      have e0 : ∀ n d, HT.sIx n d (some ((ks.length : Int) - (tk.length : Int))) = min ks0.length n := fun n d => by rw [er, List.length_map]; exact HT.sIx_nat _ _ _
      have htl : 0 < tk.length := by rcases h0 with ⟨k, rfl⟩ | rfl <;> simp
      have shp : SeqAt.shaped (.tuple (tk.map fun k => PyData.str k.txt)) = true := by
        rcases h0 with ⟨k, rfl⟩ | rfl
        · cases k <;> decide +kernel
        · decide +kernel
      have eqs : PyData.eqv (.tuple (tk.map fun k => PyData.str k.txt)) (.tuple (tk.map fun k => PyData.str k.txt)) = true := by
        rcases h0 with ⟨k, rfl⟩ | rfl
        · cases k <;> decide +kernel
        · decide +kernel
      have fin : ∀ (H1 : Hp), Same H H1 → tTup (StX.tStar K (tSl (rSlA K) (tVar 0) tNoPart (tPart (tVar 4))) (tCons (tVar 3) tNil)) [some (.ref p), some (.str t.txt), some (.ref ta), some mk.v, some (.int ((ks.length : Int) - (tk.length : Int)))] H1 Q := fun H1 sm1 => by
        have hp1 := sm1 _ _ hp
        refine ⟨_, rfl, _, rfl, _, rfl, p, _, rfl, SqT.of hp1, fun hw => ?_, fun hw p2 hp2 => ?_⟩
        · have := hw.2
          rw [e0, List.length_map] at this
          omega
        · rw [hpr]
          refine ⟨p2, _, rfl, .inl (SqT.of upd_same), _, rfl, ?_, fun p3 hp3 => ?_⟩
          · refine Nat.le_trans ?_ l20
            simp
            omega
          · refine q p3 _ (fun b o eb => ?_) ?_
            · have hb := sm1 _ _ eb
              have h3 : upd H1 p2 (.tup (ks0.map Kd.v)) b = some o := by rw [upd_ne (ne_of_none hb hp2)]; exact hb
              rw [upd_ne (ne_of_none h3 hp3)]
              exact h3
            · rw [upd_same, ek', List.map_append]
              rfl
      refine ⟨_, rfl, _, rfl, _, rfl, p, _, rfl, SqT.of hp, fun hw => ?_, fun hw p1 hp1 => ?_⟩
      · have hk0 : ks0 = [] := by
          have := hw.1
          rw [e0, List.length_map] at this
          exact List.eq_nil_of_length_eq_zero (by omega)
        refine ⟨_, rfl, _, _, .tup (SqT.of hp) ?_, .tup e3.sq (dpK tk), shp, shp, true, by rw [eqs], iteT (fin H (Same.refl H))⟩
        rw [ek, hk0, List.nil_append]
        exact dpK tk
      · rw [hsl]
        refine ⟨_, rfl, _, _, .tup (SqT.of upd_same) (dpK tk), .tup e3.sq (dpK tk), shp, shp, true, by rw [eqs], iteT (fin _ fun b o eb => ?_)⟩
        rw [upd_ne (ne_of_none eb hp1)]
        exact eb
    · -- an answer, a given, a number
      refine ⟨_, rfl, _, _, rfl, rfl, e1, _, rfl, ?_⟩
      refine iteF ?_
      have fin : ∀ (H1 : Hp), Same H H1 → tIf (tTest (tOp (rI0 fun i j => .bl (decide (i < j))) (tCB (rLen K) (tCons (tVar 0) tNil)) (tC (.int 20)))) (tTup (StX.tStar K (tVar 0) (tCons (tC (.str "number")) tNil))) (tC .non) [some (.ref p), some (.str t.txt), none, none, none] H1 Q := fun H1 sm1 => by
        have hp1 := sm1 _ _ hp
        refine ⟨_, rfl, _, ks.length, rfl, .inr ⟨_, SqT.of hp1, by simp⟩, _, _, rfl, rfl, true, bl_t (by show (ks.length : Int) < 20; omega), iteT ?_⟩
        refine ⟨_, rfl, p, _, rfl, .inl (SqT.of hp1), ?_, fun p3 hp3 => ?_⟩
        · refine Nat.le_trans ?_ l20
          simp
          omega
        · refine q p3 _ (fun b o eb => ?_) ?_
          · have hb := sm1 _ _ eb
            rw [upd_ne (ne_of_none hb hp3)]
            exact hb
          · rw [upd_same, ek', List.map_append]
            rfl
      refine ⟨_, rfl, by decide, fun p1 hp1 => ?_⟩
      have sm1 : Same H (upd H p1 (.tup [.str "a", .str "n"])) := fun b o eb => by
        rw [upd_ne (ne_of_none eb hp1)]
        exact eb
      refine ⟨p1, _, rfl, .inr (SqT.of upd_same), rfl, rfl, ?_⟩
      rcases ht with ht | ⟨k, ht, hk1, hk2⟩
      · refine ⟨true, ?_, iteT (iteT (fin _ sm1))⟩
        show V.bl (inV (.str t.txt) [.str "a", .str "n"]) = _
        rcases ht with ht | ht <;> (rw [ht]; congr 1)
      · have W := wOk_of hk1 hk2
        refine ⟨false, ?_, iteF ?_⟩
        · show V.bl (inV (.str t.txt) [.str "a", .str "n"]) = _
          have h1 : (Str.ofString "a" == numT k) = false := by simpa using fun e => W.na e.symm
          have h2 : (Str.ofString "n" == numT k) = false := by simpa using fun e => W.nn e.symm
          rw [ht]
          congr 1
          show ((Str.ofString "a" == numT k) || ((Str.ofString "n" == numT k) || false)) = false
          rw [h1, h2]
          rfl
        · refine ⟨_, rfl, k, congrArg (fun z => [V.str z]) ht, hk1, hk2, fun H2 sm2 => ?_⟩
          refine ⟨_, rfl, k, -10 ^ 18, 10 ^ 18, rfl, by omega, by omega, true, rfl, iteT (fin _ (sm1.trans sm2))⟩
end
end Dt

set_option Elab.async false
set_option linter.all false
set_option maxRecDepth 100000
set_option maxHeartbeats 2000000
namespace Dt
open PySem PySem.Spec PyProof.Rows L2
/-- one item over two values -/
inductive OpV : Op → V → V → V → Prop
  | add {x y : Int} : sm x → sm y → OpV .add (.int x) (.int y) (.int (x + y))
  | sub {x y : Int} : sm x → sm y → OpV .sub (.int x) (.int y) (.int (x - y))
  | mul {x y : Int} : sm x → sm y → OpV .mul (.int x) (.int y) (.int (x * y))
  | rem {x y : Int} : sm x → sm y → OpV .rem (.int x) (.int y) (.int (remI x y))
  | eq {x y : Int} : sm x → sm y → OpV .eq (.int x) (.int y) (.bl (decide (x = y)))
  | lt {x y : Int} : sm x → sm y → OpV .lt (.int x) (.int y) (.bl (decide (x < y)))
  | and {x y : Bool} : OpV .and (.bl x) (.bl y) (.bl (x && y))
  | or {x y : Bool} : OpV .or (.bl x) (.bl y) (.bl (x || y))
theorem StepV.four {g a : Int} {ps ps' : List V} {t : Tk} (h : StepV g a ps t ps') :
    (∃ (o : Op) (q : List V) (x y z : V), t = .op o ∧ ps = q ++ [x, y] ∧ ps' = q ++ [z] ∧ OpV o x y z ∧ q.length + 2 ≤ 20) ∨
    (∃ (q : List V) (x : Bool), t = .not ∧ ps = q ++ [.bl x] ∧ ps' = q ++ [.bl (!x)] ∧ q.length + 1 ≤ 20) ∨
    (ps.length < 20 ∧ ((t = .a ∧ ps' = ps ++ [.int a]) ∨ (t = .n ∧ ps' = ps ++ [.int g]) ∨ ∃ k : Int, t = .num k ∧ ps' = ps ++ [.int k] ∧ -45 ≤ k ∧ k ≤ 45)) := by
  cases h with
  | a h => exact .inr (.inr ⟨h, .inl ⟨rfl, rfl⟩⟩)
  | n h => exact .inr (.inr ⟨h, .inr (.inl ⟨rfl, rfl⟩)⟩)
  | num h1 h2 h => exact .inr (.inr ⟨h, .inr (.inr ⟨_, rfl, rfl, h1, h2⟩)⟩)
  | add h a b => exact .inl ⟨_, _, _, _, _, rfl, rfl, rfl, .add a b, h⟩
  | sub h a b => exact .inl ⟨_, _, _, _, _, rfl, rfl, rfl, .sub a b, h⟩
  | mul h a b => exact .inl ⟨_, _, _, _, _, rfl, rfl, rfl, .mul a b, h⟩
  | rem h a b => exact .inl ⟨_, _, _, _, _, rfl, rfl, rfl, .rem a b, h⟩
  | eq h a b => exact .inl ⟨_, _, _, _, _, rfl, rfl, rfl, .eq a b, h⟩
  | lt h a b => exact .inl ⟨_, _, _, _, _, rfl, rfl, rfl, .lt a b, h⟩
  | and h => exact .inl ⟨_, _, _, _, _, rfl, rfl, rfl, .and, h⟩
  | or h => exact .inl ⟨_, _, _, _, _, rfl, rfl, rfl, .or, h⟩
  | not h => exact .inr (.inl ⟨_, _, rfl, rfl, rfl, h⟩)
theorem at_m1 (q : List V) (x : V) : atI (q ++ [x]) (-1) = some x := atI_last q x
theorem at_m1' (q : List V) (x y : V) : atI (q ++ [x, y]) (-1) = some y := by
  have e : q ++ [x, y] = (q ++ [x]) ++ [y] := by simp
  rw [e]
  exact atI_last _ _
theorem at_m2 (q : List V) (x y : V) : atI (q ++ [x, y]) (-2) = some x := by
  unfold atI ixN
  have h0 : ¬ ((0 : Int) ≤ -2) := by decide
  simp [h0]
  rw [if_pos (by omega), show ((-2 : Int) + ((q.length : Int) + 2)).toNat = q.length from by omega]
  simp
theorem back_ne (xs ys : List V) {k : Nat} (hk : ys.length = k) (h0 : 0 < k) : ¬ (HT.sIx (xs ++ ys).length 0 none = 0 ∧ HT.sIx (xs ++ ys).length (xs ++ ys).length (some (-(k : Int))) = (xs ++ ys).length) := fun h => by
  have h2 := h.2
  have hl : k ≤ (xs ++ ys).length := by rw [List.length_append]; omega
  rw [sIx_neg h0 hl] at h2
  omega
section
variable {P : Program} {w : World} {K : PySem.W.Frag} {mg : Str → Option Value} {base : Heap}
def spRestOf : Sp := fun vs H Q _ => ∃ x y : Int, vs = [.int x, .int y] ∧ Q (.int (remI x y)) H
theorem scRestOf : FnScope ["one", "other"] ["one", "other"] (defScope sRestOf) := ⟨rfl, rfl, rfl, by decide +kernel, rfl, by decide +kernel, by decide +kernel⟩
theorem ok_restOf {f : Addr} {fd : FuncData} (F : Fun K "rest_of" "rest_of" sRestOf f fd) (T : Nm mg) : FnOk P w K mg base CX0 1 f fd ["one", "other"] spRestOf := by
  refine F.ok scRestOf (fun vs H Q E h => ?_) (fun cdv A outer s H vs Q E hr h => ?_)
  · obtain ⟨x, y, rfl, _⟩ := h
    rfl
  · obtain ⟨x, y, rfl, k⟩ := h
    refine ⟨_, pss_one (ps_ret (pe_ifExp (pt_cmpR op_eq (pv 1) pe_int (nomark _)) (pv 0) (pe_op op_modN (pv 0) (pe_callB call_abs (by rfl) T.abs (by decide +kernel) (pa_cons (pv 1) pa_nil))))), ?_⟩
    refine ⟨_, rfl, rfl, decide (y = 0), by rw [dec_int]; congr 1, ?_⟩
    by_cases h : y = 0
    · rw [decide_eq_true h]
      refine iteT ⟨_, rfl, ?_⟩
      unfold remI at k
      rw [if_pos h] at k
      exact k
    · rw [decide_eq_false h]
      refine iteF ?_
      unfold remI at k
      rw [if_neg h] at k
      exact ⟨_, rfl, _, rfl, _, rfl, _, _, rfl, rfl, (by show (if y < 0 then -y else y) ≠ 0; split <;> omega), k⟩
def spMade : Sp := fun vs H Q _ => ∃ (o : Op) (x y z : V), vs = [.str o.txt, x, y] ∧ OpV o x y z ∧ Q z H
theorem scMade : FnScope ["item", "below", "top"] ["item", "below", "top"] (defScope sMade) := ⟨rfl, rfl, rfl, by decide +kernel, rfl, by decide +kernel, by decide +kernel⟩
theorem sm64 {x : Int} (h : sm x) : -(2 ^ 64) < x ∧ x < 2 ^ 64 := by
  have h2 : x.natAbs ≤ 4100625 := h
  omega
theorem ok_made {f : Addr} {fd : FuncData} (F : Fun K "made_of" "made_of" sMade f fd) (D1 : Df P w K mg base CX0 "rest_of" 1 ["one", "other"] spRestOf) : FnOk P w K mg base CX0 2 f fd ["item", "below", "top"] spMade := by
  refine F.ok scMade (fun vs H Q E h => ?_) (fun cdv A outer s H vs Q E hr h => ?_)
  · obtain ⟨o, x, y, z, rfl, _⟩ := h
    rfl
  · obtain ⟨o, x, y, z, rfl, ho, k⟩ := h
    refine ⟨_, pss_cons (ps_if (pt_cmpR op_eq (pv 0) pe_str (nomark _)) (pss_one (ps_ret (pe_op op_add (pv 1) (pv 2)))) pss_nil)
      (pss_cons (ps_if (pt_cmpR op_eq (pv 0) pe_str (nomark _)) (pss_one (ps_ret (pe_op op_sub (pv 1) (pv 2)))) pss_nil)
      (pss_cons (ps_if (pt_cmpR op_eq (pv 0) pe_str (nomark _)) (pss_one (ps_ret (pe_op op_mul (pv 1) (pv 2)))) pss_nil)
      (pss_cons (ps_if (pt_cmpR op_eq (pv 0) pe_str (nomark _)) (pss_one (ps_ret (pcD D1 hr (by decide) (by rfl) (pa_cons (pv 1) (pa_cons (pv 2) pa_nil))))) pss_nil)
      (pss_cons (ps_if (pt_cmpR op_eq (pv 0) pe_str (nomark _)) (pss_one (ps_ret (pe_cmpR op_eq (pv 1) (pv 2) (nomark _)))) pss_nil)
      (pss_cons (ps_if (pt_cmpR op_eq (pv 0) pe_str (nomark _)) (pss_one (ps_ret (pe_cmpR op_lt (pv 1) (pv 2) (nomark _)))) pss_nil)
      (pss_one (ps_ret (pe_ifExp (pt_cmpR op_eq (pv 0) pe_str (nomark _)) (pe_and (pv 1) (pe_one (pv 2))) (pe_or (pv 1) (pe_one (pv 2))))))))))), ?_⟩
    cases ho with
    | add h1 h2 =>
      refine ⟨_, rfl, rfl, true, by decide +kernel, iteT ?_⟩
      exact ⟨_, rfl, _, rfl, _, _, rfl, rfl, k⟩
    | sub h1 h2 =>
      iterate 1 refine ⟨_, rfl, rfl, false, by decide +kernel, iteF ?_⟩
      refine ⟨_, rfl, rfl, true, by decide +kernel, iteT ?_⟩
      exact ⟨_, rfl, _, rfl, _, _, rfl, rfl, k⟩
    | mul h1 h2 =>
      iterate 2 refine ⟨_, rfl, rfl, false, by decide +kernel, iteF ?_⟩
      refine ⟨_, rfl, rfl, true, by decide +kernel, iteT ?_⟩
      exact ⟨_, rfl, _, rfl, _, _, rfl, rfl, .inl (sm64 h1), k⟩
    | rem h1 h2 =>
      iterate 3 refine ⟨_, rfl, rfl, false, by decide +kernel, iteF ?_⟩
      refine ⟨_, rfl, rfl, true, by decide +kernel, iteT ?_⟩
      exact ⟨_, rfl, _, rfl, _, _, rfl, k⟩
    | @eq x y h1 h2 =>
      iterate 4 refine ⟨_, rfl, rfl, false, by decide +kernel, iteF ?_⟩
      refine ⟨_, rfl, rfl, true, by decide +kernel, iteT ?_⟩
      refine ⟨_, rfl, _, rfl, rfl, ?_⟩
      show Q (.bl (decide (V.int x = V.int y))) H
      have e : decide (V.int x = V.int y) = decide (x = y) := by rw [dec_int, Bool.eq_iff_iff]; simp
      rw [e]
      exact k
    | lt h1 h2 =>
      iterate 5 refine ⟨_, rfl, rfl, false, by decide +kernel, iteF ?_⟩
      refine ⟨_, rfl, rfl, true, by decide +kernel, iteT ?_⟩
      exact ⟨_, rfl, _, rfl, _, _, rfl, rfl, k⟩
    | @and x y =>
      iterate 6 refine ⟨_, rfl, rfl, false, by decide +kernel, iteF ?_⟩
      refine ⟨_, rfl, rfl, true, by decide +kernel, iteT ?_⟩
      refine ⟨_, rfl, x, rfl, ?_⟩
      cases x with
      | true => exact iteT ⟨_, rfl, k⟩
      | false => exact iteF k
    | @or x y =>
      iterate 6 refine ⟨_, rfl, rfl, false, by decide +kernel, iteF ?_⟩
      refine ⟨_, rfl, rfl, false, by decide +kernel, iteF ?_⟩
      refine ⟨_, rfl, x, rfl, ?_⟩
      cases x with
      | true => exact iteT k
      | false => exact iteF ⟨_, rfl, k⟩
def spPile : Sp := fun vs H Q _ => ∃ (p : Addr) (g a : Int) (ps ps' : List V) (t : Tk), vs = [.ref p, .str t.txt, .int g, .int a] ∧ H p = some (.tup ps) ∧ StepV g a ps t ps' ∧ ∀ p' H', Same H H' → H' p' = some (.tup ps') → Q (.ref p') H'
theorem scPile : FnScope ["pile", "item", "given", "answer"] ["pile", "item", "given", "answer"] (defScope sPile) := ⟨rfl, rfl, rfl, by decide +kernel, rfl, by decide +kernel, by decide +kernel⟩
theorem ok_pile {f : Addr} {fd : FuncData} (F : Fun K "pile_behind" "pile_behind" sPile f fd) (T : Nm mg) (G : DeedG K w mg) (Z : PzG mg) (D1 : Df P w K mg base CX0 "written" 1 ["item"] spWritten) (D2 : Df P w K mg base CX0 "made_of" 2 ["item", "below", "top"] spMade) : FnOk P w K mg base CX0 3 f fd ["pile", "item", "given", "answer"] spPile := by
  refine F.ok scPile (fun vs H Q E h => ?_) (fun cdv A outer s H vs Q E hr h => ?_)
  · obtain ⟨p, g, a, ps, ps', t, rfl, _⟩ := h
    rfl
  · obtain ⟨p, g, a, ps, ps', t, rfl, hp, st, q⟩ := h
    obtain ⟨D, es, n, mD, KD, gO, gN, gA, gG, gK⟩ := G.ex
    have l20 : (20 : Nat) ≤ sizeLine := by decide
    refine ⟨_, pss_cons (ps_if (pt_cmpR op_eq (pv 1) pe_str (nomark _)) (pss_one (ps_ret (pe_tup (StX.pa_star (pe_slice sl_tupA (pv 0) po_none (po_some (pe_un un_neg pe_int))) (pa_cons (pe_not (pe_ix ix_tup (pv 0) (pe_un un_neg pe_int) (fun _ _ => rfl))) pa_nil))))) pss_nil)
      (pss_cons (ps_if (pt_cmpR (op_in_kd KD) (pv 1) (pe_glob (v := .ref D) (by rfl) mD rfl) (by rfl)) (pss_one (ps_ret (pe_tup (StX.pa_star (pe_slice sl_tupA (pv 0) po_none (po_some (pe_un un_neg pe_int)))
          (pa_cons (pcD D2 hr (by decide) (by rfl) (pa_cons (pv 1) (pa_cons (pe_ix ix_tup (pv 0) (pe_un un_neg pe_int) (fun _ _ => rfl)) (pa_cons (pe_ix ix_tup (pv 0) (pe_un un_neg pe_int) (fun _ _ => rfl)) pa_nil)))) pa_nil))))) pss_nil)
      (pss_cons (ps_if (pt_cmpR op_eq (pv 1) (pgS Z.ans (by rfl)) (nomark _)) (pss_one (ps_ret (pe_tup (StX.pa_star (pv 0) (pa_cons (pv 3) pa_nil))))) pss_nil)
      (pss_one (ps_ret (pe_tup (StX.pa_star (pv 0) (pa_cons (pe_ifExp (pt_cmpR op_eq (pv 1) (pgS Z.giv (by rfl)) (nomark _)) (pv 2) (pcD D1 hr (by decide) (by rfl) (pa_cons (pv 1) pa_nil))) pa_nil))))))), ?_⟩
    have eq_t : ∀ z : Str, t.txt = z → V.bl (decide (V.str t.txt = V.str z)) = V.bl true := fun z e => bl_t (congrArg V.str e)
    have eq_f : ∀ z : Str, ¬ t.txt = z → V.bl (decide (V.str t.txt = V.str z)) = V.bl false := fun z e => bl_f (fun h => e (V.str.inj h))
    have lay : ∀ (H1 : Hp) (xs : List V), Same H H1 → xs.length ≤ 20 → xs = ps' → xs.length ≤ sizeLine ∧ ∀ p', H1 p' = none → Q (.ref p') (upd H1 p' (.tup xs)) := fun H1 xs sm hl e => ⟨Nat.le_trans hl l20, fun p' hp' => q p' _ (fun b o eb => by rw [upd_ne (ne_of_none (sm _ _ eb) hp')]; exact sm _ _ eb) (by rw [upd_same, e])⟩
    have hl' := st.len.2.1
    rcases st.four with ⟨o, r, x, y, z, rfl, rfl, rfl, ho, hl⟩ | ⟨r, x, rfl, rfl, rfl, hl⟩ | ⟨hl, ht⟩
    · obtain ⟨pa, ta, e1, _, _⟩ := gO o
      refine ⟨_, rfl, rfl, false, eq_f _ (by cases o <;> decide +kernel), iteF ?_⟩
      refine ⟨_, rfl, _, _, rfl, rfl, e1, true, rfl, iteT ?_⟩
      have hk2 : cutV (r ++ [x, y]) none (some (-2)) = r := cut_back r [x, y] (k := 2) rfl (by decide)
      refine ⟨_, rfl, _, rfl, _, rfl, p, _, rfl, SqT.of hp, fun hw => ?_, fun hw p1 hp1 => ?_⟩
      · exact absurd hw (back_ne r [x, y] (k := 2) rfl (by decide))
      · have sm1 : Same H (upd H p1 (.tup (cutV (r ++ [x, y]) none (some (-2))))) := fun b o eb => by rw [upd_ne (ne_of_none eb hp1)]; exact eb
        have hq := sm1 _ _ hp
        refine ⟨p1, _, rfl, .inl (SqT.of upd_same), ?_⟩
        refine ⟨_, rfl, _, rfl, _, rfl, p, _, _, x, rfl, rfl, SqT.of hq, at_m2 _ _ _, _, rfl, _, rfl, p, _, _, y, rfl, rfl, SqT.of hq, at_m1' _ _ _, o, x, y, z, rfl, ho, ?_⟩
        exact lay _ _ sm1 (by rw [hk2]; exact hl') (by rw [hk2])
    · refine ⟨_, rfl, rfl, true, eq_t _ rfl, iteT ?_⟩
      have hk2 : cutV (r ++ [V.bl x]) none (some (-1)) = r := cut_back r [V.bl x] (k := 1) rfl (by decide)
      refine ⟨_, rfl, _, rfl, _, rfl, p, _, rfl, SqT.of hp, fun hw => ?_, fun hw p1 hp1 => ?_⟩
      · exact absurd hw (back_ne r [V.bl x] (k := 1) rfl (by decide))
      · have sm1 : Same H (upd H p1 (.tup (cutV (r ++ [V.bl x]) none (some (-1))))) := fun b o eb => by rw [upd_ne (ne_of_none eb hp1)]; exact eb
        have hq := sm1 _ _ hp
        refine ⟨p1, _, rfl, .inl (SqT.of upd_same), ?_⟩
        refine ⟨_, rfl, _, rfl, p, _, _, V.bl x, rfl, rfl, SqT.of hq, at_m1 _ _, x, rfl, ?_⟩
        exact lay _ _ sm1 (by rw [hk2]; exact hl') (by rw [hk2])
    · rcases ht with ⟨rfl, rfl⟩ | ⟨rfl, rfl⟩ | ⟨k, rfl, rfl, hk1, hk2⟩
      · refine ⟨_, rfl, rfl, false, eq_f _ (by decide +kernel), iteF ?_⟩
        refine ⟨_, rfl, _, _, rfl, rfl, gA, false, rfl, iteF ?_⟩
        refine ⟨_, rfl, rfl, true, eq_t _ rfl, iteT ?_⟩
        exact ⟨_, rfl, p, _, rfl, .inl (SqT.of hp), _, rfl, lay _ _ (Same.refl H) hl' rfl⟩
      · refine ⟨_, rfl, rfl, false, eq_f _ (by decide +kernel), iteF ?_⟩
        refine ⟨_, rfl, _, _, rfl, rfl, gG, false, rfl, iteF ?_⟩
        refine ⟨_, rfl, rfl, false, eq_f _ (by decide +kernel), iteF ?_⟩
        exact ⟨_, rfl, p, _, rfl, .inl (SqT.of hp), _, rfl, rfl, true, eq_t _ rfl, iteT ⟨_, rfl, lay _ _ (Same.refl H) hl' rfl⟩⟩
      · have W := wOk_of hk1 hk2
        refine ⟨_, rfl, rfl, false, eq_f _ W.nnot, iteF ?_⟩
        refine ⟨_, rfl, _, _, rfl, rfl, gK k hk1 hk2, false, rfl, iteF ?_⟩
        refine ⟨_, rfl, rfl, false, eq_f _ W.na, iteF ?_⟩
        exact ⟨_, rfl, p, _, rfl, .inl (SqT.of hp), _, rfl, rfl, false, eq_f _ W.nn, iteF ⟨_, rfl, k, rfl, hk1, hk2, fun H2 sm2 => lay _ _ sm2 hl' rfl⟩⟩
end
end Dt

set_option Elab.async false
set_option linter.all false
set_option maxRecDepth 100000
set_option maxHeartbeats 2000000
namespace Dt
open PySem PySem.Spec PyProof.Rows L2
abbrev itemsV (ts : List Tk) : List V := ts.map fun t => V.str t.txt
def jt (ts : List Tk) : Str := Txt.join " " (ts.map Tk.txt)
theorem op_nsp (o : Op) : ∀ c ∈ o.txt.cps.toList, ¬ c = 32 := by cases o <;> decide +kernel
theorem tk_nsp {t : Tk} (h : t.ok) : ∀ c ∈ t.txt.cps.toList, ¬ c = 32 := by
  cases t with
  | a => decide +kernel
  | n => decide +kernel
  | num k => exact (wOk_of h.1 h.2).nsp
  | op o => exact op_nsp o
  | not => decide +kernel
theorem op_len (o : Op) : o.txt.length ≤ 10 := by cases o <;> decide +kernel
theorem tk_len {t : Tk} (h : t.ok) : t.txt.length ≤ 10 := by
  cases t with
  | a => decide +kernel
  | n => decide +kernel
  | num k => exact (wOk_of h.1 h.2).len
  | op o => exact op_len o
  | not => decide +kernel
theorem CountT.ok {d : Nat} {s : List Tk} (h : CountT d s) : ∀ t ∈ s, t.ok := by
  induction h with
  | leaf h =>
    intro t ht
    rw [List.mem_singleton] at ht
    subst ht
    rcases h with rfl | rfl | ⟨k, rfl, h1, h2⟩
    · trivial
    · trivial
    · exact ⟨h1, h2⟩
  | bin _ _ _ i1 i2 =>
    intro t ht
    simp only [List.mem_append, List.mem_singleton] at ht
    rcases ht with (ht | ht) | rfl
    · exact i1 t ht
    · exact i2 t ht
    · trivial
theorem TruthT.ok {d : Nat} {s : List Tk} (h : TruthT d s) : ∀ t ∈ s, t.ok := by
  induction h with
  | cmp h1 h2 _ =>
    intro t ht
    simp only [List.mem_append, List.mem_singleton] at ht
    rcases ht with (ht | ht) | rfl
    · exact h1.ok t ht
    · exact h2.ok t ht
    · trivial
  | bin _ _ _ i1 i2 =>
    intro t ht
    simp only [List.mem_append, List.mem_singleton] at ht
    rcases ht with (ht | ht) | rfl
    · exact i1 t ht
    · exact i2 t ht
    · trivial
  | neg _ ih =>
    intro t ht
    simp only [List.mem_append, List.mem_singleton] at ht
    rcases ht with ht | rfl
    · exact ih t ht
    · trivial
/-- items fit to be joined -/
structure Tks (ts : List Tk) : Prop where
  ok : ∀ t ∈ ts, t.ok
  ne : ts ≠ []
  len : ts.length ≤ 100
theorem Tks.split {ts : List Tk} (h : Tks ts) : Txt.split (jt ts) " " = ts.map Tk.txt := by
  refine TL.split_join (s := 32) (S := []) (by decide +kernel) (by decide +kernel) (fun e => h.ne (List.map_eq_nil_iff.mp e)) fun p hp => ?_
  obtain ⟨t, ht, rfl⟩ := List.mem_map.mp hp
  intro hc
  exact tk_nsp (h.ok t ht) 32 hc rfl
theorem joinL_len (S : List Nat) : ∀ l : List (List Nat), (TL.joinL S l).length ≤ (l.map List.length).sum + l.length * S.length
  | [] => by simp [TL.joinL]
  | [p] => by simp [TL.joinL]
  | p :: q :: r => by
    have ih := joinL_len S (q :: r)
    show (p ++ (S ++ TL.joinL S (q :: r))).length ≤ _
    simp only [List.length_append, List.map_cons, List.sum_cons, List.length_cons] at ih ⊢
    have e : (r.length + 1 + 1) * S.length = (r.length + 1) * S.length + S.length := by rw [Nat.add_mul]; omega
    omega
theorem sum_le : ∀ (l : List Nat) (b : Nat), (∀ x ∈ l, x ≤ b) → l.sum ≤ l.length * b
  | [], _, _ => by simp
  | x :: l, b, h => by
    have ih := sum_le l b fun y hy => h y (List.mem_cons_of_mem _ hy)
    have h1 := h x (List.mem_cons_self ..)
    have e : (l.length + 1) * b = l.length * b + b := by rw [Nat.add_mul]; omega
    simp only [List.sum_cons, List.length_cons]
    omega
theorem Tks.sum {ts : List Tk} (h : Tks ts) : ((ts.map Tk.txt).map (·.length)).sum + (ts.map Tk.txt).length * (" " : Str).length ≤ 1100 := by
  have h1 := sum_le ((ts.map Tk.txt).map (·.length)) 10 fun x hx => by
    obtain ⟨z, hz, rfl⟩ := List.mem_map.mp hx
    obtain ⟨t, ht, rfl⟩ := List.mem_map.mp hz
    exact tk_len (h.ok t ht)
  have h2 : (" " : Str).length = 1 := by decide +kernel
  have h3 := h.len
  simp only [List.length_map] at h1 ⊢
  rw [h2]
  omega
theorem Tks.jlen {ts : List Tk} (h : Tks ts) : (jt ts).length ≤ 1100 := by
  have e : (jt ts).length = (TL.tl (jt ts)).length := TL.len_tl _
  have e2 : TL.tl (jt ts) = TL.joinL (TL.tl " ") ((ts.map Tk.txt).map TL.tl) := by
    unfold jt
    rw [TL.join_eq, TL.tl_join]
  have h1 := joinL_len (TL.tl " ") ((ts.map Tk.txt).map TL.tl)
  have h2 : (((ts.map Tk.txt).map TL.tl).map List.length).sum = ((ts.map Tk.txt).map (·.length)).sum := by
    congr 1
    rw [List.map_map]
    refine List.map_congr_left fun z _ => ?_
    exact (TL.len_tl z).symm
  have h3 := h.sum
  have h4 : (TL.tl " ").length = (" " : Str).length := (TL.len_tl _).symm
  rw [e, e2]
  simp only [List.length_map] at h1 h3 ⊢
  rw [h4] at h1
  omega
/-! ### instances -/
def sfl (w : Addr) (i : Int) : List (Str × V) := [("words", .ref w), ("at", .int i)]
def pfl (ts : List Tk) (c : Addr) : List (Str × V) := [("text", .str (jt ts)), ("check", .ref c), ("cost", .int ts.length)]
theorem sfl_words (w : Addr) (i : Int) : (sfl w i).lookup ("words" : Str) = some (.ref w) := by kernel_rfl
theorem sfl_at (w : Addr) (i : Int) : (sfl w i).lookup ("at" : Str) = some (.int i) := by kernel_rfl
theorem sfl_take (w : Addr) (i : Int) : (sfl w i).lookup ("take" : Str) = none := by kernel_rfl
theorem sfl_ahead (w : Addr) (i : Int) : (sfl w i).lookup ("ahead" : Str) = none := by kernel_rfl
theorem sfl_put (w : Addr) (i j : Int) : putF "at" (.int j) (sfl w i) = sfl w j := by kernel_rfl
theorem sfl_new (w : Addr) : putF "at" (.int 0) (putF "words" (.ref w) []) = sfl w 0 := by kernel_rfl
theorem pfl_text (ts : List Tk) (c : Addr) : (pfl ts c).lookup ("text" : Str) = some (.str (jt ts)) := by kernel_rfl
theorem pfl_check (ts : List Tk) (c : Addr) : (pfl ts c).lookup ("check" : Str) = some (.ref c) := by kernel_rfl
theorem pfl_cost (ts : List Tk) (c : Addr) : (pfl ts c).lookup ("cost" : Str) = some (.int ts.length) := by kernel_rfl
theorem pfl_new (ts : List Tk) (c : Addr) : putF "cost" (.int ts.length) (putF "check" (.ref c) (putF "text" (.str (jt ts)) [])) = pfl ts c := by kernel_rfl
structure ScanAt (C : Addr) (H : Hp) (p w : Addr) (ts : List Tk) (i : Nat) : Prop where
  ob : ∃ dx, H p = some (.ins C dx (sfl w i))
  ws : H w = some (.lst (itemsV ts))
structure PzAt (C : Addr) (H : Hp) (p : Addr) (ts : List Tk) : Prop where
  ex : ∃ dx c, H p = some (.ins C dx (pfl ts c)) ∧ H c = some (.tup (itemsV ts))
theorem PzAt.same {C : Addr} {H H' : Hp} {p : Addr} {ts : List Tk} (h : PzAt C H p ts) (s : Same H H') : PzAt C H' p ts := by
  obtain ⟨dx, c, h1, h2⟩ := h.ex
  exact ⟨dx, c, s _ _ h1, s _ _ h2⟩
end Dt

set_option Elab.async false
set_option linter.all false
set_option maxRecDepth 100000
set_option maxHeartbeats 2000000
namespace Dt
open PySem PySem.Spec PyProof.Rows L2
/-- a method of a class: its promise -/
structure Mt (P : Program) (w : World) (K : PySem.W.Frag) (mg : Str → Option Value) (base : Heap) (C : Addr) (m : Str) (k : Nat) (ps : List Str) (sp : Sp) : Prop where
  ex : ∃ (f : Addr) (fd : FuncData), Meth K C m f ∧ FnOk P w K mg base CX0 k f fd ps sp ∧ Binds K fd ps []
/-- a class with an own __init__ -/
structure Ms (P : Program) (w : World) (K : PySem.W.Frag) (mg : Str → Option Value) (base : Heap) (x : Str) (C : Addr) (k : Nat) (ps : List Str) (sp : Sp) : Prop where
  ex : ∃ (f : Addr) (fd : FuncData), Mk K C f ∧ FnOk P w K mg base CX0 k f fd ps sp ∧ mg x = some (.ref C) ∧ Binds K fd ps []
structure ScC (K : PySem.W.Frag) (mg : Str → Option Value) (C : Addr) : Prop where
  cl : Cls K C
  nw : NoAttr K C "words"
  na : NoAttr K C "at"
structure PzC (K : PySem.W.Frag) (mg : Str → Option Value) (C : Addr) : Prop where
  cl : Cls K C
  nt : NoAttr K C "text"
  nc : NoAttr K C "check"
  no : NoAttr K C "cost"
section
variable {P : Program} {w : World} {K : PySem.W.Frag} {mg : Str → Option Value} {base : Heap}
def spScInit (C : Addr) : Sp := fun vs H Q _ => ∃ (p dx : Addr) (ts : List Tk), vs = [.ref p, .str (jt ts)] ∧ H p = some (.ins C dx []) ∧ Tks ts ∧ ∀ wl H', (∀ b o, H b = some o → b ≠ p → H' b = some o) → ScanAt C H' p wl ts 0 → H wl = none → Q .non H'
theorem scScInit : FnScope ["self", "text"] ["self", "text"] (defScope sScInit) := ⟨rfl, rfl, rfl, by decide +kernel, rfl, by decide +kernel, by decide +kernel⟩
theorem ok_scInit {f C : Addr} {fd : FuncData} (F : Fun K "__init__" "Scan.__init__" sScInit f fd) (T : Nm mg) (S : ScC K mg C) : FnOk P w K mg base CX0 1 f fd ["self", "text"] (spScInit C) := by
  refine F.ok scScInit (fun vs H Q E h => ?_) (fun cdv A outer s H vs Q E hr h => ?_)
  · obtain ⟨p, dx, ts, rfl, _⟩ := h
    rfl
  · obtain ⟨p, dx, ts, rfl, hp, ht, q⟩ := h
    refine ⟨_, pss_cons (ps_if (pt_not (pt_val (pe_callB call_isi (by rfl) T.isi (by decide +kernel) (pa_cons (pv 1) (pa_cons (pe_bltn (v := .ty "str") (by rfl) T.str boot_str rfl) pa_nil))))) pss_never pss_nil)
      (pss_cons (ps_fld (pv 0) (pe_split (pv 1) pe_str) rfl) (pss_one (ps_fld (pv 0) pe_int rfl))), ?_⟩
    refine ⟨_, rfl, _, _, _, _, true, rfl, .ty _, .base (.str _), kit_ty (by decide +kernel), true, rfl, iteF ?_⟩
    refine ⟨_, rfl, ⟨_, rfl⟩, _, _, rfl, rfl, by decide +kernel, ?_, ?_⟩
    · have h1 := ht.jlen
      have h2 : (1102 : Nat) ≤ sizeLine := by decide
      omega
    · intro l hl
      have npl : p ≠ l := ne_of_none hp hl
      refine ⟨_, rfl, p, C, dx, [], rfl, by rw [upd_ne npl]; exact hp, S.cl, S.nw, by show 0 < 1000; decide, ?_⟩
      refine ⟨_, rfl, p, C, dx, _, rfl, upd_same, S.cl, S.na, by show 1 < 1000; decide, ?_⟩
      refine q l _ (fun b o e hb => ?_) ⟨⟨dx, ?_⟩, ?_⟩ hl
      · rw [upd_ne hb, upd_ne hb, upd_ne (ne_of_none e hl)]
        exact e
      · exact Eq.trans upd_same (congrArg (fun l => some (HO.ins C dx l)) (sfl_new l))
      · rw [upd_ne npl.symm, upd_ne npl.symm, upd_same, ht.split, List.map_map]
        rfl
def spScAhead (C : Addr) : Sp := fun vs H Q _ => ∃ (p wl : Addr) (ts : List Tk) (i : Nat), vs = [.ref p] ∧ ScanAt C H p wl ts i ∧ i ≤ ts.length ∧ Q (match ts[i]? with | some t => .str t.txt | none => .non) H
theorem scScAhead : FnScope ["self"] ["self"] (defScope sScAhead) := ⟨rfl, rfl, rfl, by decide +kernel, rfl, by decide +kernel, by decide +kernel⟩
theorem ok_scAhead {f C : Addr} {fd : FuncData} (F : Fun K "ahead" "Scan.ahead" sScAhead f fd) (T : Nm mg) (S : ScC K mg C) : FnOk P w K mg base CX0 1 f fd ["self"] (spScAhead C) := by
  refine F.ok scScAhead (fun vs H Q E h => ?_) (fun cdv A outer s H vs Q E hr h => ?_)
  · obtain ⟨p, wl, ts, i, rfl, _⟩ := h
    rfl
  · obtain ⟨p, wl, ts, i, rfl, hA, hi, q⟩ := h
    obtain ⟨dx, hp⟩ := hA.ob
    refine ⟨_, pss_one (ps_ret (pe_ifExp (pt_cmpR op_lt (pe_fld (pv 0) rfl) (pe_callB call_len (by rfl) T.len PySem.boot_len (pa_cons (pe_fld (pv 0) rfl) pa_nil)) (nomark _)) (pe_ix ix_list (pe_fld (pv 0) rfl) (pe_fld (pv 0) rfl) (fun _ _ => rfl)) pe_non)), ?_⟩
    refine ⟨_, rfl, p, C, dx, _, _, rfl, hp, S.cl, S.na, sfl_at _ _, ?_⟩
    refine ⟨_, rfl, p, C, dx, _, _, rfl, hp, S.cl, S.nw, sfl_words _ _, _, ts.length, rfl, .inl ⟨_, SqL.of hA.ws, by simp⟩, _, _, rfl, rfl, ?_⟩
    by_cases h : i < ts.length
    · refine ⟨true, bl_t (by show (i : Int) < (ts.length : Int); omega), iteT ?_⟩
      refine ⟨_, rfl, p, C, dx, _, _, rfl, hp, S.cl, S.nw, sfl_words _ _, _, rfl, p, C, dx, _, _, rfl, hp, S.cl, S.na, sfl_at _ _, wl, _, _, V.str ts[i].txt, rfl, rfl, SqL.of hA.ws, atI_nat (by simp [h]), ?_⟩
      rw [List.getElem?_eq_getElem h] at q
      exact q
    · refine ⟨false, bl_f (by show ¬ (i : Int) < (ts.length : Int); omega), iteF ?_⟩
      rw [List.getElem?_eq_none (by omega)] at q
      exact q
def spScTake (C : Addr) : Sp := fun vs H Q _ => ∃ (p wl : Addr) (ts : List Tk) (i : Nat), vs = [.ref p] ∧ ScanAt C H p wl ts i ∧ i < ts.length ∧ ∀ v H', (∀ b o, H b = some o → b ≠ p → H' b = some o) → ScanAt C H' p wl ts (i + 1) → Q v H'
theorem scScTake : FnScope ["self", "item"] ["self"] (defScope sScTake) := ⟨rfl, rfl, rfl, by decide +kernel, rfl, by decide +kernel, by decide +kernel⟩
theorem ok_scTake {f C : Addr} {fd : FuncData} (F : Fun K "take" "Scan.take" sScTake f fd) (T : Nm mg) (S : ScC K mg C) (M1 : Mt P w K mg base C "ahead" 1 ["self"] (spScAhead C)) : FnOk P w K mg base CX0 2 f fd ["self"] (spScTake C) := by
  refine F.ok scScTake (fun vs H Q E h => ?_) (fun cdv A outer s H vs Q E hr h => ?_)
  · obtain ⟨p, wl, ts, i, rfl, _⟩ := h
    rfl
  · obtain ⟨p, wl, ts, i, rfl, hA, hi, q⟩ := h
    obtain ⟨dx, hp⟩ := hA.ob
    obtain ⟨fA, fdA, mA, GA, bA⟩ := M1.ex
    refine ⟨_, pss_cons (ps_set (i := 1) scScTake.nd rfl (.inl rfl) (pe_meth0 (pv 0) S.cl mA GA hr bA .nil pass0))
      (pss_cons (ps_if (pt_cmpR op_isN (pv 1) pe_non (nomark _)) pss_never pss_nil)
      (pss_cons (ps_fld (pv 0) (pe_op op_add (pe_fld (pv 0) rfl) pe_int) rfl) (pss_one (ps_ret (pv 1))))), ?_⟩
    refine ⟨_, rfl, p, dx, _, rfl, hp, sfl_ahead _ _, p, wl, ts, i, rfl, hA, Nat.le_of_lt hi, ?_⟩
    rw [List.getElem?_eq_getElem hi]
    refine ⟨_, rfl, rfl, false, bl_f (by simp), iteF ?_⟩
    refine ⟨_, rfl, p, C, dx, _, _, rfl, hp, S.cl, S.na, sfl_at _ _, _, _, rfl, rfl, _, rfl, p, C, dx, _, rfl, hp, S.cl, S.na, by show 2 < 1000; decide, _, rfl, ?_⟩
    have npw : wl ≠ p := fun z => by
      have h1 := hA.ws
      rw [z, hp] at h1
      cases h1
    refine q _ _ (fun b o e hb => ?_) ⟨⟨dx, ?_⟩, ?_⟩
    · rw [upd_ne hb]
      exact e
    · exact Eq.trans upd_same (congrArg (fun l => some (HO.ins C dx l)) (sfl_put wl _ _))
    · rw [upd_ne npw]
      exact hA.ws
end
end Dt

set_option Elab.async false
set_option linter.all false
set_option maxRecDepth 100000
set_option maxHeartbeats 2000000
namespace Dt
open PySem PySem.Spec PyProof.Rows L2
theorem dpKd {K : PySem.W.Frag} {H : Hp} : Dp K H (.str "truth") (.str "truth") := .str _
section
variable {P : Program} {w : World} {K : PySem.W.Frag} {mg : Str → Option Value} {base : Heap}
def spPzInit (C : Addr) : Sp := fun vs H Q _ => ∃ (p dx : Addr) (ts : List Tk), vs = [.ref p, .str (jt ts)] ∧ H p = some (.ins C dx []) ∧ Tks ts ∧ ts.length ≤ 40 ∧ Run StepK [] ts [.tru] ∧
  ∀ H', (∀ b o, H b = some o → b ≠ p → H' b = some o) → PzAt C H' p ts → Q .non H'
theorem scPzInit : FnScope ["self", "text", "scan", "kinds"] ["self", "text"] (defScope sPzInit) := ⟨rfl, rfl, rfl, by decide +kernel, rfl, by decide +kernel, by decide +kernel⟩
theorem ok_pzInit {f C CS : Addr} {fd : FuncData} (F : Fun K "__init__" "Puzzle.__init__" sPzInit f fd) (T : Nm mg) (Z : PzG mg) (S : ScC K mg CS) (Pz : PzC K mg C) (MI : Ms P w K mg base "Scan" CS 1 ["self", "text"] (spScInit CS))
    (MA : Mt P w K mg base CS "ahead" 1 ["self"] (spScAhead CS)) (MT : Mt P w K mg base CS "take" 2 ["self"] (spScTake CS)) (DK : Df P w K mg base CX0 "kinds_behind" 3 ["kinds", "item"] spKinds) : FnOk P w K mg base CX0 4 f fd ["self", "text"] (spPzInit C) := by
  refine F.ok scPzInit (fun vs H Q E h => ?_) (fun cdv A outer s H vs Q E hr h => ?_)
  · obtain ⟨p, dx, ts, rfl, _⟩ := h
    rfl
  · obtain ⟨p, dx, ts, rfl, hp, ht, hl, hrun, q⟩ := h
    obtain ⟨fI, fdI, mI, GI, gI, bI⟩ := MI.ex
    obtain ⟨fA, fdA, mA, GA, bA⟩ := MA.ex
    obtain ⟨fT, fdT, mT, GT, bT⟩ := MT.ex
    have hr1 : Room 1 _ := hr.mono (by decide)
    have hr2 : Room 2 _ := hr.mono (by decide)
    refine ⟨_, pss_cons (ps_par (i := 2) (j := 3) (by rfl) scPzInit.nd rfl rfl (by decide) rfl rfl (pa_cons (pe_make mI GI hr2 (by rfl) gI bI .nil pass0 (pa_cons (pv 1) pa_nil)) (pa_cons (pe_tup pa_nil) pa_nil)) (by rfl))
      (pss_cons (ps_while PassesOwn.never (pt_cmpR op_notN (pe_meth0 (pv 2) S.cl mA GA hr1 bA .nil pass0) pe_non (nomark _))
        (pss_cons (ps_set (i := 3) scPzInit.nd rfl (.inl rfl) (pe_ifExp (pt_cmpR op_lt (pe_fld (pv 2) rfl) (pgI Z.items (by rfl)) (nomark _)) (pcD DK hr (by decide) (by rfl) (pa_cons (pv 3) (pa_cons (pe_meth0 (pv 2) S.cl mA GA hr1 bA .nil pass0) pa_nil))) pe_non))
        (pss_cons (ps_if (pt_cmpR op_isN (pv 3) pe_non (nomark _)) pss_never pss_nil)
        (pss_one (ps_expr (pe_meth0 (pv 2) S.cl mT GT hr2 bT .nil pass0))))))
      (pss_cons (ps_if (pt_cmpR (op_neD hr.units) (pv 3) (pe_tup (pa_cons (pgS Z.tru (by rfl)) pa_nil)) (nomark _)) pss_never pss_nil)
      (pss_cons (ps_fld (pv 0) (pv 1) rfl)
      (pss_cons (ps_fld (pv 0) (pe_callTy call_tuple_of (by rfl) T.tuple boot_tuple (pa_cons (pe_fld (pv 2) rfl) pa_nil)) rfl)
      (pss_one (ps_fld (pv 0) (pe_callB call_len (by rfl) T.len PySem.boot_len (pa_cons (pe_fld (pv 2) rfl) pa_nil)) rfl)))))), ?_⟩
    refine ⟨_, rfl, fun sc dsc nsc ndsc nex => ?_⟩
    refine ⟨sc, dsc, ts, rfl, upd_same, ht, fun wl H1 kp1 hS nwl => ⟨rfl, ?_⟩⟩
    have smx : Same H (upd (upd H dsc (.own sc)) sc (.ins CS dsc [])) := fun b o e => by
      rw [upd_ne (ne_of_none e nsc), upd_ne (ne_of_none e ndsc)]
      exact e
    have sm1 : Same H H1 := fun b o e => kp1 b o (smx b o e) (ne_of_none e nsc)
    refine ⟨by decide, fun kp0 hk0 => ?_⟩
    refine ⟨_, _, rfl, ?_⟩
    -- the scan
    refine ⟨fun m σ H2 => ∃ (i : Nat) (ks : List Kd) (kp : Addr), m = ts.length - i ∧ i ≤ ts.length ∧ σ = [some (.ref p), some (.str (jt ts)), some (.ref sc), some (.ref kp)] ∧ Same H H2 ∧ ScanAt CS H2 sc wl ts i ∧ H2 kp = some (.tup (ks.map Kd.v)) ∧ Run StepK ks (ts.drop i) [.tru],
      ⟨_, 0, [], kp0, rfl, Nat.zero_le _, rfl, fun b o e => by rw [upd_ne (ne_of_none (sm1 _ _ e) hk0)]; exact sm1 _ _ e, ?_, upd_same, hrun⟩, ?_⟩
    · obtain ⟨dx1, e1⟩ := hS.ob
      exact ⟨⟨dx1, by rw [upd_ne (ne_of_none e1 hk0)]; exact e1⟩, by rw [upd_ne (ne_of_none hS.ws hk0)]; exact hS.ws⟩
    rintro m σ H2 ⟨i, ks, kp, rfl, hi, rfl, sm2, S2, hk2, run2⟩
    obtain ⟨dx2, e2⟩ := S2.ob
    refine ⟨_, rfl, sc, dx2, _, rfl, e2, sfl_ahead _ _, sc, wl, ts, i, rfl, S2, hi, ?_⟩
    by_cases hlt : i < ts.length
    · have et : ts.drop i = ts[i] :: ts.drop (i + 1) := List.drop_eq_getElem_cons hlt
      rw [et] at run2
      cases run2 with
      | @cons _ ks' _ _ _ st run3 =>
      rw [List.getElem?_eq_getElem hlt]
      refine ⟨rfl, true, rfl, iteT ⟨fun σ' H' => ∃ m', m' < ts.length - i ∧ ∃ (i : Nat) (ks : List Kd) (kp : Addr), m' = ts.length - i ∧ i ≤ ts.length ∧ σ' = [some (.ref p), some (.str (jt ts)), some (.ref sc), some (.ref kp)] ∧ Same H H' ∧ ScanAt CS H' sc wl ts i ∧ H' kp = some (.tup (ks.map Kd.v)) ∧ Run StepK ks (ts.drop i) [.tru], fun σ' H' h => h, ?_⟩⟩
      refine ⟨_, rfl, sc, CS, dx2, _, _, rfl, e2, S.cl, S.na, sfl_at _ _, _, _, rfl, rfl, true, bl_t (by show (i : Int) < 40; omega), iteT ?_⟩
      refine ⟨_, rfl, _, rfl, sc, dx2, _, rfl, e2, sfl_ahead _ _, sc, wl, ts, i, rfl, S2, hi, ?_⟩
      rw [List.getElem?_eq_getElem hlt]
      refine ⟨kp, ks, ks', ts[i], rfl, hk2, st, fun kp' H3 sm3 hk3 => ?_⟩
      refine ⟨_, rfl, rfl, false, bl_f (by simp), iteF ?_⟩
      have S3 : ScanAt CS H3 sc wl ts i := ⟨⟨dx2, sm3 _ _ e2⟩, sm3 _ _ S2.ws⟩
      refine ⟨_, rfl, sc, dx2, _, rfl, sm3 _ _ e2, sfl_take _ _, sc, wl, ts, i, rfl, S3, hlt, fun v H4 kp4 S4 => ?_⟩
      have nks : kp' ≠ sc := fun z => by
        rw [z, sm3 _ _ e2] at hk3
        cases hk3
      exact ⟨_, by omega, i + 1, ks', kp', rfl, hlt, rfl, fun b o e => kp4 b o (sm3 _ _ (sm2 _ _ e)) (ne_of_none e nsc), S4, kp4 _ _ hk3 nks, run3⟩
    · have hie : i = ts.length := by omega
      rw [List.getElem?_eq_none (by omega)]
      refine ⟨rfl, false, rfl, iteF ?_⟩
      rw [List.drop_eq_nil_of_le (by omega)] at run2
      cases run2
      refine ⟨_, rfl, by decide, fun tp htp => ?_⟩
      have hk3 : upd H2 tp (.tup [.str "truth"]) kp = some (.tup [.str "truth"]) := by rw [upd_ne (ne_of_none hk2 htp)]; exact hk2
      refine ⟨_, _, .tup (SqT.of hk3) (.cons dpKd .nil), .tup (SqT.of upd_same) (.cons dpKd .nil), by decide +kernel, by decide +kernel, false, by decide +kernel, iteF ?_⟩
      have sm3 : Same H (upd H2 tp (.tup [.str "truth"])) := fun b o e => by rw [upd_ne (ne_of_none (sm2 _ _ e) htp)]; exact sm2 _ _ e
      have e3 : upd H2 tp (.tup [.str "truth"]) sc = some (.ins CS dx2 (sfl wl i)) := by rw [upd_ne (ne_of_none e2 htp)]; exact e2
      have w3 : upd H2 tp (.tup [.str "truth"]) wl = some (.lst (itemsV ts)) := by rw [upd_ne (ne_of_none S2.ws htp)]; exact S2.ws
      generalize upd H2 tp (.tup [.str "truth"]) = H3 at sm3 e3 w3
      have hp3 := sm3 _ _ hp
      have nps : p ≠ sc := ne_of_none hp nsc
      have npw : wl ≠ p := fun z => by
        rw [z, hp3] at w3
        cases w3
      refine ⟨_, rfl, _, rfl, p, C, dx, _, rfl, hp3, Pz.cl, Pz.nt, by show 0 < 1000; decide, ?_⟩
      refine ⟨_, rfl, sc, CS, dx2, _, _, rfl, by rw [upd_ne nps.symm]; exact e3, S.cl, S.nw, sfl_words _ _, wl, _, rfl, .inl ⟨SqL.of (by rw [upd_ne npw]; exact w3), fun c hc => ?_⟩⟩
      have npc : p ≠ c := ne_of_none upd_same hc
      refine ⟨_, rfl, p, C, dx, _, rfl, by rw [upd_ne npc, upd_same], Pz.cl, Pz.nc, by show 1 < 1000; decide, ?_⟩
      have hc3 : H3 c = none := by
        rw [upd_ne npc.symm] at hc
        exact hc
      have nsc2 : sc ≠ c := ne_of_none e3 hc3
      have nwc : wl ≠ c := ne_of_none w3 hc3
      refine ⟨_, rfl, sc, CS, dx2, _, _, rfl, by rw [upd_ne nps.symm, upd_ne nsc2, upd_ne nps.symm]; exact e3, S.cl, S.nw, sfl_words _ _, _, ts.length, rfl, .inl ⟨_, SqL.of (by rw [upd_ne npw, upd_ne nwc, upd_ne npw]; exact w3), by simp⟩, _, rfl, p, C, dx, _, rfl, upd_same, Pz.cl, Pz.no, by show 2 < 1000; decide, ?_⟩
      refine q _ (fun b o e hb => ?_) ⟨dx, c, Eq.trans upd_same (congrArg (fun l => some (HO.ins C dx l)) (pfl_new ts c)), ?_⟩
      · have eb := sm3 _ _ e
        rw [upd_ne hb, upd_ne hb, upd_ne (ne_of_none eb hc3), upd_ne hb]
        exact eb
      · rw [upd_ne npc.symm, upd_ne npc.symm, upd_same]
end
end Dt

set_option Elab.async false
set_option linter.all false
set_option maxRecDepth 100000
set_option maxHeartbeats 2000000
namespace Dt
open PySem PySem.Spec PyProof.Rows L2
section
variable {P : Program} {w : World} {K : PySem.W.Frag} {mg : Str → Option Value} {base : Heap}
def spAlong (C : Addr) : Sp := fun vs H Q _ => ∃ (z : Addr) (g a : Int) (ts : List Tk) (r : Bool), vs = [.ref z, .int g, .int a] ∧ PzAt C H z ts ∧ Run (StepV g a) [] ts [.bl r] ∧ ts ≠ [] ∧ ts.length ≤ 40 ∧
  ∀ p xs pl H', Same H H' → H' p = some (.tup (xs ++ [.ref pl])) → H' pl = some (.tup [.bl r]) → Q (.ref p) H'
theorem scAlong : FnScope ["puzzle", "given", "answer", "found", "pile", "item"] ["puzzle", "given", "answer"] (defScope sAlong) := ⟨rfl, rfl, rfl, by decide +kernel, rfl, by decide +kernel, by decide +kernel⟩
theorem ok_along {f C : Addr} {fd : FuncData} (F : Fun K "piles_along" "piles_along" sAlong f fd) (T : Nm mg) (Pz : PzC K mg C) (D1 : Df P w K mg base CX0 "pile_behind" 3 ["pile", "item", "given", "answer"] spPile) : FnOk P w K mg base CX0 4 f fd ["puzzle", "given", "answer"] (spAlong C) := by
  refine F.ok scAlong (fun vs H Q E h => ?_) (fun cdv A outer s H vs Q E hr h => ?_)
  · obtain ⟨z, g, a, ts, r, rfl, _⟩ := h
    rfl
  · obtain ⟨z, g, a, ts, r, rfl, hz, hrun, hne, hl, q⟩ := h
    obtain ⟨dx, c, hz1, hc1⟩ := hz.ex
    refine ⟨_, pss_cons (ps_par (i := 3) (j := 4) (by rfl) scAlong.nd rfl rfl (by decide) rfl rfl (pa_cons (pe_lst pa_nil) (pa_cons (pe_tup pa_nil) pa_nil)) (by rfl))
      (pss_cons (ps_for PassesOwn.never rfl (pi_tup (pe_fld (pv 0) rfl)) (pg_name (i := 5) scAlong.nd rfl (.inl rfl))
        (pss_cons (ps_set (i := 4) scAlong.nd rfl (.inl rfl) (pcD D1 hr (by decide) (by rfl) (pa_cons (pv 4) (pa_cons (pv 5) (pa_cons (pv 1) (pa_cons (pv 2) pa_nil))))))
        (pss_one (ps_expr (pe_bm PySem.F.plainAttrs_list PySem.F.slot_list_append PySem.F.type_list_append mt_append (pv 3) (pa_cons (pv 4) pa_nil))))))
      (pss_one (ps_ret (pe_callTy call_tuple_of (by rfl) T.tuple boot_tuple (pa_cons (pv 3) pa_nil))))), ?_⟩
    refine ⟨by decide, fun fl hfl => ⟨by decide, fun p0 hp0 => ⟨_, _, rfl, ?_⟩⟩⟩
    have sm0 : Same H (upd (upd H fl (.lst [])) p0 (.tup [])) := fun b o e => by
      have e1 : upd H fl (.lst []) b = some o := by rw [upd_ne (ne_of_none e hfl)]; exact e
      rw [upd_ne (ne_of_none e1 hp0)]
      exact e1
    have nfp : fl ≠ p0 := ne_of_none upd_same hp0
    refine ⟨_, rfl, z, C, dx, _, _, rfl, sm0 _ _ hz1, Pz.cl, Pz.nc, pfl_check _ _, c, rfl, ⟨_, SqT.of (sm0 _ _ hc1)⟩, for_tup (K := K) (a := c) (xs := itemsV ts) (fun i σ H2 => ∃ (ps : List V) (pp : Addr) (xs : List V) (v : Option V), σ = [some (.ref z), some (.int g), some (.int a), some (.ref fl), some (.ref pp), v] ∧ Same H H2 ∧
        H2 pp = some (.tup ps) ∧ Run (StepV g a) ps (ts.drop i) [.bl r] ∧ H2 fl = some (.lst xs) ∧ xs.length = i ∧ (0 < i → ∃ ys, xs = ys ++ [.ref pp])) ⟨[], p0, [], none, rfl, sm0, upd_same, hrun, by rw [upd_ne nfp, upd_same], rfl, fun h => absurd h (Nat.lt_irrefl 0)⟩ (fun i σ H2 _ ⟨_, _, _, _, _, s2, _⟩ => SqT.of (s2 _ _ hc1)) ?_ ?_⟩
    · rintro i y σ H2 hi ⟨ps, pp, xs, v, rfl, s2, hpp, run2, hf2, hxl, _⟩
      have hil : i < (itemsV ts).length := (List.getElem?_eq_some_iff.mp hi).1
      have hil2 : i < ts.length := by simpa using hil
      have ey : y = V.str ts[i].txt := by
        rw [List.getElem?_eq_getElem hil] at hi
        have := Option.some.inj hi
        rw [← this]
        simp
      subst ey
      have et : ts.drop i = ts[i] :: ts.drop (i + 1) := List.drop_eq_getElem_cons hil2
      rw [et] at run2
      cases run2 with
      | @cons _ ps' _ _ _ st run3 =>
      refine ⟨_, rfl, _, rfl, _, rfl, _, rfl, pp, g, a, ps, ps', ts[i], rfl, hpp, st, fun p' H3 sm3 hp' => ?_⟩
      have hf3 := sm3 _ _ hf2
      have nlp : p' ≠ fl := fun z => by
        rw [z, hf3] at hp'
        cases hp'
      have l40 : (40 : Nat) < sizeLine := by decide
      refine ⟨_, rfl, .inl ⟨rfl, _, SqL.of hf3⟩, _, rfl, fl, _, _, rfl, rfl, hf3, by omega, ?_⟩
      refine ⟨ps', p', xs ++ [.ref p'], _, rfl, fun b o e => ?_, by rw [upd_ne nlp]; exact hp', run3, upd_same, by simp [hxl], fun _ => ⟨xs, rfl⟩⟩
      rw [upd_ne (ne_of_none e hfl)]
      exact sm3 _ _ (s2 _ _ e)
    · rintro σ H2 ⟨ps, pp, xs, v, rfl, s2, hpp, run2, hf2, hxl, hlast⟩
      have hpos : 0 < (itemsV ts).length := by
        rw [List.length_map]
        exact List.length_pos_iff.mpr hne
      obtain ⟨ys, ex⟩ := hlast hpos
      rw [List.drop_eq_nil_of_le (by rw [List.length_map]; omega)] at run2
      cases run2
      refine ⟨_, rfl, fl, xs, rfl, .inl ⟨SqL.of hf2, fun p hp => ?_⟩⟩
      refine q p ys pp _ (fun b o e => by rw [upd_ne (ne_of_none (s2 _ _ e) hp)]; exact s2 _ _ e) (by rw [upd_same, ex]) ?_
      rw [upd_ne (ne_of_none hpp hp)]
      exact hpp
def spRight (C : Addr) : Sp := fun vs H Q _ => ∃ (z : Addr) (g a : Int) (ts : List Tk) (r : Bool), vs = [.ref z, .int g, .int a] ∧ PzAt C H z ts ∧ Run (StepV g a) [] ts [.bl r] ∧ ts ≠ [] ∧ ts.length ≤ 40 ∧ ∀ H', Same H H' → Q (.bl r) H'
theorem scRight : FnScope ["puzzle", "given", "answer"] ["puzzle", "given", "answer"] (defScope sRight) := ⟨rfl, rfl, rfl, by decide +kernel, rfl, by decide +kernel, by decide +kernel⟩
theorem ok_right {f C : Addr} {fd : FuncData} (F : Fun K "right_for" "right_for" sRight f fd) (D1 : Df P w K mg base CX0 "piles_along" 4 ["puzzle", "given", "answer"] (spAlong C)) : FnOk P w K mg base CX0 5 f fd ["puzzle", "given", "answer"] (spRight C) := by
  refine F.ok scRight (fun vs H Q E h => ?_) (fun cdv A outer s H vs Q E hr h => ?_)
  · obtain ⟨z, g, a, ts, r, rfl, _⟩ := h
    rfl
  · obtain ⟨z, g, a, ts, r, rfl, hz, hrun, hne, hl, q⟩ := h
    refine ⟨_, pss_one (ps_ret (pe_ix ix_tup (pe_ix ix_tup (pcD D1 hr (by decide) (by rfl) (pa_cons (pv 0) (pa_cons (pv 1) (pa_cons (pv 2) pa_nil)))) (pe_un un_neg pe_int) (fun _ _ => rfl)) pe_int (fun _ _ => rfl))), ?_⟩
    refine ⟨_, rfl, _, rfl, _, rfl, z, g, a, ts, r, rfl, hz, hrun, hne, hl, fun p xs pl H' sm hp hpl => ?_⟩
    refine ⟨_, rfl, p, _, _, V.ref pl, rfl, rfl, SqT.of hp, atI_last _ _, pl, _, ((0 : Nat) : Int), V.bl r, rfl, rfl, SqT.of hpl, atI_nat rfl, q _ sm⟩
def spNeedB : Sp := fun vs H Q _ => ∃ g a : Int, vs = [.int g, .int a] ∧ g.natAbs ≤ 45 ∧ a.natAbs ≤ 45 ∧ Q .non H
theorem scNeedB : FnScope ["given", "answer"] ["given", "answer"] (defScope sNeedB) := ⟨rfl, rfl, rfl, by decide +kernel, rfl, by decide +kernel, by decide +kernel⟩
theorem ok_needB {f : Addr} {fd : FuncData} (F : Fun K "need_both" "need_both" sNeedB f fd) (Z : PzG mg) (D1 : Df P w K mg base CX0 "need_number" 3 ["value", "part", "least", "most"] spNeedNum) : FnOk P w K mg base CX0 4 f fd ["given", "answer"] spNeedB := by
  refine F.ok scNeedB (fun vs H Q E h => ?_) (fun cdv A outer s H vs Q E hr h => ?_)
  · obtain ⟨g, a, rfl, _⟩ := h
    rfl
  · obtain ⟨g, a, rfl, hg, ha, q⟩ := h
    refine ⟨_, pss_cons (ps_expr (pcD D1 hr (by decide) (by rfl) (pa_cons (pv 0) (pa_cons pe_str (pa_cons (pe_un un_neg (pgI Z.numb (by rfl))) (pa_cons (pgI Z.numb (by rfl)) pa_nil))))))
      (pss_one (ps_expr (pcD D1 hr (by decide) (by rfl) (pa_cons (pv 1) (pa_cons pe_str (pa_cons (pe_un un_neg (pgI Z.numb (by rfl))) (pa_cons (pgI Z.numb (by rfl)) pa_nil))))))), ?_⟩
    refine ⟨_, rfl, _, rfl, g, -10 ^ 18, 10 ^ 18, _, rfl, by omega, by omega, ?_⟩
    exact ⟨_, rfl, _, rfl, a, -10 ^ 18, 10 ^ 18, _, rfl, by omega, by omega, q⟩
end
end Dt

set_option Elab.async false
set_option linter.all false
set_option maxRecDepth 100000
set_option maxHeartbeats 2000000
namespace Dt
open PySem PySem.Spec PyProof.Rows L2 DtR
theorem app_len (x y : Str) : (x ++ y).length = x.length + y.length := by
  have h := TL.tl_append x y
  rw [TL.len_tl, h, List.length_append, ← TL.len_tl, ← TL.len_tl]
/-- an exception class with its own __init__, its def at fI -/
structure ExI (P : Program) (K : PySem.W.Frag) (mg : Str → Option Value) (C fI : Addr) (qual : Str) (st : Stmt) (fd : FuncData) : Prop where
  ex : ∃ (cc cda : Addr) (kV doc pm ct : Value) (an : Option Addr), fd = PySem.W.ksFn "__init__" qual (defArgs st) (defBody st) (defScope st) .none kV doc pm an (.ref cda) ct cc ∧
    SupC K mg P C cc cda fI fd ∧ PySem.W.codeIn K (.ref cda) qual = true
section
variable {P : Program} {w : World} {K : PySem.W.Frag} {mg : Str → Option Value} {base : Heap}
def spBP (C : Addr) : Sp := fun vs H Q _ => ∃ (x : Addr) (z : Str), vs = [.ref x, .str z] ∧ H x = some (exo x C none) ∧ z.length ≤ 1000 ∧
  ∀ d H', (∀ b o, H b = some o → b ≠ x → H' b = some o) → H d = none → H' x = some (exo x C (some d)) → H' d = some (exd d [("part", .str z)]) → Q .non H'
theorem scBP : NdefX.NScope ["self", "part", "__class__"] ["self", "part"] ["__class__"] (defScope sBPInit) := NdefX.nscope_by (by decide +kernel)
theorem ok_bp {C fI : Addr} {fd : FuncData} (F : ExI P K mg C fI "BadPuzzle.__init__" sBPInit fd) (hp0 : PySem.W.findIn K (.ref C) "part" = some none) : FnOk P w K mg base CX0 1 fI fd ["self", "part"] (spBP C) := by
  obtain ⟨cc, cda, kV, doc, pm, ct, an, rfl, S, hcd⟩ := F.ex
  refine fn_super (k := 0) (N := ["self", "part", "__class__"]) (ar := { arg := "self", annotation := none, pos := ⟨14, 17, 14, 21⟩ }) S hcd scBP (fun vs H Q E h => ?_) rfl rfl rfl rfl (fun A outer s H vs Q E hr h => ?_) (fun _ => rfl) (fun _ => rfl) (fun _ => rfl)
  · obtain ⟨x, z, rfl, _⟩ := h
    rfl
  · obtain ⟨x, z, rfl, hx, hz, q⟩ := h
    refine ⟨_, _, x, pe_joined (.cons pe_str (.cons (pe_fmt (pv 1)) .nil)), pss_one (ps_ost (pv 0) (pv 1)), rfl, hx, ?_⟩
    have l1 : ("is none: " : Str).length = 9 := by decide +kernel
    have l2 : (2000 : Nat) ≤ sizeLine := by decide
    refine ⟨_, rfl, by rw [app_len, l1]; exact Nat.le_trans (by decide) l2, _, rfl, .inl ⟨z, rfl, by omega, _, rfl, ?_, hx, ?_⟩⟩
    · rw [app_len, app_len, l1]
      have e0 : (Str.empty).length = 0 := rfl
      omega
    · refine ⟨_, rfl, _, rfl, x, C, rfl, S.ox, hp0, .inl ⟨hx, fun dx nd ne => ?_⟩⟩
      refine q dx _ (fun b o e hb => ?_) nd upd_same (by rw [upd_ne ne, upd_same])
      rw [upd_ne hb, upd_ne (ne_of_none e nd)]
      exact e
def spTM (C : Addr) : Sp := fun vs H Q _ => ∃ (x : Addr) (z : Str) (n : Int), vs = [.ref x, .str z, .int n] ∧ H x = some (exo x C none) ∧ z.length ≤ 1000 ∧ n.natAbs.log2 < 1920 ∧ (toString n : Str).length ≤ 1000 ∧
  ∀ d H', (∀ b o, H b = some o → b ≠ x → H' b = some o) → H d = none → H' x = some (exo x C (some d)) → H' d = some (exd d [("most", .int n), ("what", .str z)]) → Q .non H'
theorem scTM : NdefX.NScope ["self", "what", "most", "__class__"] ["self", "what", "most"] ["__class__"] (defScope sTMInit) := NdefX.nscope_by (by decide +kernel)
theorem ok_tm {C fI : Addr} {fd : FuncData} (F : ExI P K mg C fI "TooMany.__init__" sTMInit fd) (hp0 : PySem.W.findIn K (.ref C) "what" = some none) (hp1 : PySem.W.findIn K (.ref C) "most" = some none) : FnOk P w K mg base CX0 1 fI fd ["self", "what", "most"] (spTM C) := by
  obtain ⟨cc, cda, kV, doc, pm, ct, an, rfl, S, hcd⟩ := F.ex
  refine fn_super (k := 0) (N := ["self", "what", "most", "__class__"]) (ar := { arg := "self", annotation := none, pos := ⟨19, 17, 19, 21⟩ }) S hcd scTM (fun vs H Q E h => ?_) rfl rfl rfl rfl (fun A outer s H vs Q E hr h => ?_) (fun _ => rfl) (fun _ => rfl) (fun _ => rfl)
  · obtain ⟨x, z, n, rfl, _⟩ := h
    rfl
  · obtain ⟨x, z, n, rfl, hx, hz, hn, hn2, q⟩ := h
    refine ⟨_, _, x, pe_joined (.cons (pe_fmt (pv 1)) (.cons pe_str (.cons (pe_fmt (pv 2)) .nil))), pss_cons (ps_ost (pv 0) (pv 1)) (pss_one (ps_ost (pv 0) (pv 2))), rfl, hx, ?_⟩
    have l1 : (": at most " : Str).length = 10 := by decide +kernel
    have l2 : (3000 : Nat) ≤ sizeLine := by decide
    have e0 : (Str.empty).length = 0 := rfl
    refine ⟨_, rfl, .inl ⟨z, rfl, by omega, _, rfl, by rw [app_len]; omega, _, rfl, by rw [app_len, app_len, l1]; omega, _, rfl, .inr ⟨n, rfl, hn, _, rfl, by rw [app_len, app_len, app_len, l1]; omega, hx, ?_⟩⟩⟩
    refine ⟨_, rfl, _, rfl, x, C, rfl, S.ox, hp0, .inl ⟨hx, fun dx nd ne => ?_⟩⟩
    refine ⟨_, rfl, _, rfl, x, C, rfl, S.ox, hp1, .inr ⟨dx, _, upd_same, by rw [upd_ne ne, upd_same], by show 1 ≤ 900; decide, ?_⟩⟩
    refine q dx _ (fun b o e hb => ?_) nd (by rw [upd_ne ne.symm, upd_same]) upd_same
    rw [upd_ne (ne_of_none e nd), upd_ne hb, upd_ne (ne_of_none e nd)]
    exact e
end
end Dt

set_option Elab.async false
set_option linter.all false
set_option maxRecDepth 100000
set_option maxHeartbeats 2000000
namespace Dt
open PySem PySem.Spec PyProof.Rows L2 DtR
/-- an exception class that can be raised by x(..), its __init__ keeping sp -/
structure Xc (P : Program) (w : World) (K : PySem.W.Frag) (mg : Str → Option Value) (base : Heap) (x : Str) (C : Addr) (ps : List Str) (sp : Sp) : Prop where
  ex : ∃ (fI : Addr) (fd : FuncData), OexC K C ∧ PySem.W.findIn K (.ref C) "__init__" = some (some (.ref fI)) ∧ PySem.W.typeIn K (.ref fI) = some (.type "function") ∧ FnOk P w K mg base CX0 1 fI fd ps sp ∧ Binds K fd ps [] ∧ mg x = some (.ref C)
/-- isinstance(x, Puzzle) -/
structure IsP (K : PySem.W.Frag) (mg : Str → Option Value) (C : Addr) : Prop where
  cl : Cls K C
  mgP : mg "Puzzle" = some (.ref C)
  ha : PySem.W.findIn K (.ref C) "__class__" = some (some (.builtin "object.__class__"))
  hn : PySem.W.specialIn K (.builtin "object.__class__") "__get__" = some (some (.builtin "getset_descriptor.__get__"))
  htk : PySem.W.takesIn K (.builtin "object.__class__") = some true
  hm : PySem.W.mroIn K C (.type "object") = some true
  self : PySem.W.kitOne K (.ref C) (.ref C) = some true
  non : PySem.W.kitOne K (.type "NoneType") (.ref C) = some false
  int : PySem.W.kitOne K (.type "int") (.ref C) = some false
  str : PySem.W.kitOne K (.type "str") (.ref C) = some false
  list : PySem.W.kitOne K (.type "list") (.ref C) = some false
  bool : PySem.W.kitOne K (.type "bool") (.ref C) = some false
/-- what a raise of an own exception leaves -/
def Rs (E : XK) (C : Addr) (H : Hp) (fs : List (Str × V)) : Prop := ∀ d H', Same H H' → H d = none → H' d = some (.xd fs) → E (.ref C) (some d) H'
theorem Rs.of {E : XK} {C : Addr} {H H1 : Hp} {fs : List (Str × V)} (h : Rs E C H fs) (s : Same H H1) : Rs E C H1 fs := fun d H' s1 hd he => h d H' (s.trans s1) (s.free hd) he
/-- no puzzle -/
def NoPz (K : PySem.W.Frag) (C : Addr) (x : V) (H : Hp) : Prop := ∃ t, TyX K H x t ∧ PySem.W.kitOne K t (.ref C) = some false
def IsPz (C : Addr) (x : V) (H : Hp) : Prop := ∃ p ts, x = .ref p ∧ PzAt C H p ts
theorem joinL_app (S : List Nat) : ∀ (l m : List (List Nat)), l ≠ [] → m ≠ [] → TL.joinL S (l ++ m) = TL.joinL S l ++ (S ++ TL.joinL S m)
  | [], _, h, _ => absurd rfl h
  | [x], [], _, h => absurd rfl h
  | [x], y :: m, _, _ => rfl
  | x :: z :: l, m, _, hm => by
    show x ++ (S ++ TL.joinL S ((z :: l) ++ m)) = (x ++ (S ++ TL.joinL S (z :: l))) ++ (S ++ TL.joinL S m)
    rw [joinL_app S (z :: l) m (by simp) hm]
    simp only [List.append_assoc]
theorem joinL_two (S : List Nat) : ∀ (ls : List (List (List Nat))), (∀ l ∈ ls, l ≠ []) → TL.joinL S (ls.map (TL.joinL S)) = TL.joinL S ls.flatten
  | [], _ => rfl
  | [l], _ => by simp [TL.joinL]
  | l :: m :: r, h => by
    have ih := joinL_two S (m :: r) fun x hx => h x (List.mem_cons_of_mem _ hx)
    have hl := h l (List.mem_cons_self ..)
    have hm : (m :: r).flatten ≠ [] := by
      have := h m (List.mem_cons_of_mem _ (List.mem_cons_self ..))
      simp [this]
    show TL.joinL S l ++ (S ++ TL.joinL S ((m :: r).map (TL.joinL S))) = TL.joinL S (l ++ (m :: r).flatten)
    rw [ih, joinL_app S l _ hl hm]
theorem tl_jt (ts : List Tk) : TL.tl (jt ts) = TL.joinL (TL.tl " ") (ts.map fun t => TL.tl t.txt) := by
  unfold jt
  rw [TL.join_eq, TL.tl_join, List.map_map]
  rfl
theorem jt_flat (tss : List (List Tk)) (h : ∀ ts ∈ tss, ts ≠ []) : Txt.join " " (tss.map jt) = jt tss.flatten := by
  refine TL.ext_tl ?_
  rw [tl_jt, TL.join_eq, TL.tl_join, List.map_map]
  have e : tss.map (TL.tl ∘ jt) = (tss.map fun ts => ts.map fun t => TL.tl t.txt).map (TL.joinL (TL.tl " ")) := by
    rw [List.map_map]
    exact List.map_congr_left fun ts _ => tl_jt ts
  rw [e, joinL_two _ _ fun l hl => ?_, List.map_flatten]
  obtain ⟨ts, hts, rfl⟩ := List.mem_map.mp hl
  exact fun e => h ts hts (List.map_eq_nil_iff.mp e)
theorem jt_one (t : Tk) : jt [t] = t.txt := by
  refine TL.ext_tl ?_
  rw [tl_jt]
  rfl
section
variable {P : Program} {w : World} {K : PySem.W.Frag} {mg : Str → Option Value} {base : Heap}
def spNeedP (K : PySem.W.Frag) (C CB : Addr) : Sp := fun vs H Q E => ∃ (x : V) (z : Str), vs = [x, .str z] ∧ z.length ≤ 1000 ∧ ((IsPz C x H ∧ Q .non H) ∨ (NoPz K C x H ∧ Rs E CB H [("part", .str z)]))
theorem scNeedP : FnScope ["value", "part"] ["value", "part"] (defScope sNeedP) := ⟨rfl, rfl, rfl, by decide +kernel, rfl, by decide +kernel, by decide +kernel⟩
theorem ok_needP {f C CB : Addr} {fd : FuncData} (F : FunD K "need_puzzle" "need_puzzle" (defArgs sNeedP) (defBody sNeedP) (defScope sNeedP) [.str "puzzle"] [] f fd) (T : Nm mg) (I : IsP K mg C) (X : Xc P w K mg base "BadPuzzle" CB ["self", "part"] (spBP CB)) : FnOk P w K mg base (L2.CX P w) 3 f fd ["value", "part"] (spNeedP K C CB) := by
  refine F.ok scNeedP (fun vs H Q E h => ?_) (fun cdv A outer s H vs Q E hr h => ?_)
  · obtain ⟨x, z, rfl, _⟩ := h
    rfl
  · obtain ⟨x, z, rfl, hz, h⟩ := h
    obtain ⟨fI, fdI, xO, xI, xT, GI, bI, gI⟩ := X.ex
    refine ⟨_, pss_one (ps_if (pt_not (pt_val (pe_callB call_isi (by rfl) T.isi (by decide +kernel) (pa_cons (pv 0) (pa_cons (pe_glob (v := .ref C) (by rfl) I.mgP rfl) pa_nil)))))
      (pss_one (ps_raise rfl (takes_of rfl rfl rfl rfl) (pmk_oex xO xI xT GI hr bI .nil pass0 (by rfl) gI (pa_cons (pv 1) pa_nil)))) pss_nil), ?_⟩
    rcases h with ⟨⟨p, ts, rfl, hp⟩, q⟩ | ⟨⟨t, hty, hk⟩, q⟩
    · obtain ⟨dx, c, hp1, _⟩ := hp.ex
      refine ⟨_, rfl, _, _, _, _, true, rfl, .own C, .base (.ins hp1 I.cl I.ha I.hn I.htk I.hm), I.self, true, rfl, iteF q⟩
    · refine ⟨_, rfl, _, _, _, _, false, rfl, .own C, hty, hk, false, rfl, iteT ?_⟩
      refine ⟨_, rfl, by show 1 ≤ 1000; decide, fun a ha => ?_⟩
      refine ⟨a, z, rfl, upd_same, hz, fun d H' kp hd hx hdx => ⟨rfl, d, _, hx, hdx, ?_, ?_⟩⟩
      · have nda : d ≠ a := fun e => by
          rw [e, upd_same] at hd
          cases hd
        rw [upd_ne nda] at hd
        exact hd
      · have nda : d ≠ a := fun e => by
          rw [e, upd_same] at hd
          cases hd
        rw [upd_ne nda] at hd
        refine q d _ (fun b o e => ?_) hd upd_same
        have nba := ne_of_none e ha
        rw [upd_ne (ne_of_none e hd), del_ne nba]
        exact kp b o (by rw [upd_ne nba]; exact e) nba
/-- need_puzzle, called with one argument or two -/
structure NP (P : Program) (w : World) (K : PySem.W.Frag) (mg : Str → Option Value) (base : Heap) (C CB : Addr) : Prop where
  ex : ∃ (f : Addr) (fd : FuncData) (ds : List Value), FnOk P w K mg base (L2.CX P w) 3 f fd ["value", "part"] (spNeedP K C CB) ∧ mg "need_puzzle" = some (.ref f) ∧ PySem.W.keepIn K (.ref f) = true ∧ Binds K fd ["value", "part"] [] ∧ Vals [.str "puzzle"] ds ∧ Binds K fd ["value", "part"] ds
/-- texts of checks, joined -/
def spJoined (C CT : Addr) : Sp := fun vs H Q E => ∃ (l : Addr) (tss : List (List Tk)), vs = [.ref l] ∧ H l = some (.lst (tss.map fun ts => V.str (jt ts))) ∧ tss ≠ [] ∧ (∀ ts ∈ tss, ts ≠ []) ∧ Tks tss.flatten ∧
  ((40 < tss.flatten.length ∧ Rs E CT H [("most", .int 40), ("what", .str "items")]) ∨ (tss.flatten.length ≤ 40 ∧ Run StepK [] tss.flatten [.tru] ∧ ∀ p H', Same H H' → PzAt C H' p tss.flatten → Q (.ref p) H'))
theorem scJoined : FnScope ["texts", "text"] ["texts"] (defScope sJoined) := ⟨rfl, rfl, rfl, by decide +kernel, rfl, by decide +kernel, by decide +kernel⟩
theorem flat_sub {tss : List (List Tk)} (h : Tks tss.flatten) {ts : List Tk} (hm : ts ∈ tss) (hn : ts ≠ []) : Tks ts := by
  have hsub : ts.length ≤ tss.flatten.length := (List.sublist_flatten_of_mem hm).length_le
  exact ⟨fun t ht => h.ok t (List.mem_flatten.mpr ⟨ts, hm, ht⟩), hn, Nat.le_trans hsub h.len⟩
theorem flat_count : ∀ (tss : List (List Tk)), (∀ ts ∈ tss, ts ≠ []) → tss.length ≤ tss.flatten.length
  | [], _ => Nat.le_refl _
  | ts :: r, h => by
    have ih := flat_count r fun x hx => h x (List.mem_cons_of_mem _ hx)
    have h1 : 0 < ts.length := List.length_pos_iff.mpr (h ts (List.mem_cons_self ..))
    simp only [List.flatten_cons, List.length_append, List.length_cons]
    omega
theorem flat_sum {tss : List (List Tk)} (h : Tks tss.flatten) (hn : ∀ ts ∈ tss, ts ≠ []) : ((tss.map jt).map (·.length)).sum + (tss.map jt).length * (" " : Str).length ≤ 16777216 := by
  have h1 := sum_le ((tss.map jt).map (·.length)) 1100 fun x hx => by
    obtain ⟨z, hz, rfl⟩ := List.mem_map.mp hx
    obtain ⟨ts, hts, rfl⟩ := List.mem_map.mp hz
    exact (flat_sub h hts (hn ts hts)).jlen
  have h2 : (" " : Str).length = 1 := by decide +kernel
  have h3 := h.len
  have h4 := flat_count tss hn
  simp only [List.length_map] at h1 ⊢
  rw [h2]
  omega
theorem ok_joined {f C CT : Addr} {fd : FuncData} (F : Fun K "joined" "joined" sJoined f fd) (T : Nm mg) (Z : PzG mg) (M : Ms P w K mg base "Puzzle" C 4 ["self", "text"] (spPzInit C)) (X : Xc P w K mg base "TooMany" CT ["self", "what", "most"] (spTM CT)) : FnOk P w K mg base (L2.CX P w) 6 f fd ["texts"] (spJoined C CT) := by
  refine F.okX scJoined (fun vs H Q E h => ?_) (fun cdv A outer s H vs Q E hr h => ?_)
  · obtain ⟨l, tss, rfl, _⟩ := h
    rfl
  · obtain ⟨l, tss, rfl, hl, hne, hns, htk, h⟩ := h
    obtain ⟨fI, fdI, xO, xI, xT, GI, bI, gI⟩ := X.ex
    obtain ⟨fM, fdM, mM, GM, gM, bM⟩ := M.ex
    refine ⟨_, pss_cons (ps_set (i := 1) scJoined.nd rfl (.inl rfl) (pe_join pe_str (pv 0)))
      (pss_cons (ps_if (pt_cmpR op_gt (pe_callB call_len (by rfl) T.len PySem.boot_len (pa_cons (pe_split (pv 1) pe_str) pa_nil)) (pgI Z.items (by rfl)) (nomark _))
        (pss_one (ps_raise rfl (takes_of rfl rfl rfl rfl) (pmk_oex xO xI xT GI (hr.mono (by decide)) bI .nil pass0 (by rfl) gI (pa_cons pe_str (pa_cons (pgI Z.items (by rfl)) pa_nil))))) pss_nil)
      (pss_one (ps_ret (pe_make mM GM hr (by rfl) gM bM .nil pass0 (pa_cons (pv 1) pa_nil))))), ?_⟩
    have el : (tss.map fun ts => V.str (jt ts)) = (tss.map jt).map V.str := by rw [List.map_map]; rfl
    rw [el] at hl
    refine ⟨⟨_, rfl⟩, _, rfl, _, l, tss.map jt, rfl, rfl, .inl (SqL.of hl), flat_sum htk hns, ?_⟩
    rw [jt_flat _ hns]
    have l2 : (1102 : Nat) ≤ sizeLine := by decide
    have hj := htk.jlen
    refine ⟨_, rfl, ⟨_, rfl⟩, _, _, rfl, rfl, by decide +kernel, by omega, fun q hq => ?_⟩
    have smq : ∀ o, Same H (upd H q o) := fun o b u e => by rw [upd_ne (ne_of_none e hq)]; exact e
    refine ⟨_, tss.flatten.length, rfl, .inl ⟨_, SqL.of upd_same, by rw [htk.split, List.length_map, List.length_map]⟩, _, _, rfl, rfl, ?_⟩
    rcases h with ⟨h40, hR⟩ | ⟨h40, hrun, hQ⟩
    · refine ⟨true, bl_t (by show (40 : Int) < (tss.flatten.length : Int); omega), iteT ?_⟩
      refine ⟨by show 2 ≤ 1000; decide, fun a ha => ?_⟩
      refine ⟨a, _, 40, rfl, upd_same, by decide +kernel, by decide +kernel, by decide +kernel, fun d H' kp hd hx hdx => ⟨rfl, d, _, hx, hdx, ?_, ?_⟩⟩
      · have nda : d ≠ a := fun e => by
          rw [e, upd_same] at hd
          cases hd
        rw [upd_ne nda] at hd
        exact hd
      · have nda : d ≠ a := fun e => by
          rw [e, upd_same] at hd
          cases hd
        rw [upd_ne nda] at hd
        refine (hR.of (smq _)) d _ (fun b o e => ?_) hd upd_same
        have nba := ne_of_none e ha
        rw [upd_ne (ne_of_none e hd), del_ne nba]
        exact kp b o (by rw [upd_ne nba]; exact e) nba
    · refine ⟨false, bl_f (by show ¬ (40 : Int) < (tss.flatten.length : Int); omega), iteF ?_⟩
      refine ⟨_, rfl, fun x dx nx ndx nex => ?_⟩
      refine ⟨x, dx, _, rfl, upd_same, htk, h40, hrun, fun H' kp hP => ⟨rfl, ?_⟩⟩
      refine hQ x H' (fun b o e => ?_) hP
      have e1 := smq (.lst ((Txt.split (jt tss.flatten) " ").map V.str)) b o e
      have nbx := ne_of_none e1 nx
      exact kp b o (by rw [upd_ne nbx, upd_ne (ne_of_none e1 ndx)]; exact e1) nbx
end
end Dt

set_option Elab.async false
set_option linter.all false
set_option maxRecDepth 100000
set_option maxHeartbeats 2000000
namespace Dt
open PySem PySem.Spec PyProof.Rows L2 DtR
section
variable {P : Program} {w : World} {K : PySem.W.Frag} {mg : Str → Option Value} {base : Heap}
def spIsR (C : Addr) : Sp := fun vs H Q _ => ∃ (z : Addr) (g a : Int) (ts : List Tk) (r : Bool), vs = [.ref z, .int g, .int a] ∧ PzAt C H z ts ∧ g.natAbs ≤ 45 ∧ a.natAbs ≤ 45 ∧ Run (StepV g a) [] ts [.bl r] ∧ ts ≠ [] ∧ ts.length ≤ 40 ∧ ∀ H', Same H H' → Q (.bl r) H'
theorem scIsR : FnScope ["puzzle", "given", "answer"] ["puzzle", "given", "answer"] (defScope sIsRight) := ⟨rfl, rfl, rfl, by decide +kernel, rfl, by decide +kernel, by decide +kernel⟩
theorem ok_isR {f C CB : Addr} {fd : FuncData} (F : Fun K "is_right" "is_right" sIsRight f fd) (N : NP P w K mg base C CB) (D1 : Df P w K mg base CX0 "need_both" 4 ["given", "answer"] spNeedB) (D2 : Df P w K mg base CX0 "right_for" 5 ["puzzle", "given", "answer"] (spRight C)) : FnOk P w K mg base CX0 6 f fd ["puzzle", "given", "answer"] (spIsR C) := by
  refine F.ok scIsR (fun vs H Q E h => ?_) (fun cdv A outer s H vs Q E hr h => ?_)
  · obtain ⟨z, g, a, ts, r, rfl, _⟩ := h
    rfl
  · obtain ⟨z, g, a, ts, r, rfl, hz, hg, ha, hrun, hne, hl, q⟩ := h
    obtain ⟨fN, fdN, ds, GN, gN, kN, bN, vN, bN1⟩ := N.ex
    refine ⟨_, pss_cons (ps_expr (pe_call GN (hr.mono (by decide)) (by rfl) gN kN bN1 vN (passes_call LamX.takes0 (E := fun _ _ _ => False) fun _ _ _ _ z => z) (pa_cons (pv 0) pa_nil)))
      (pss_cons (ps_expr (pcD D1 hr (by decide) (by rfl) (pa_cons (pv 1) (pa_cons (pv 2) pa_nil))))
      (pss_one (ps_ret (pcD D2 hr (by decide) (by rfl) (pa_cons (pv 0) (pa_cons (pv 1) (pa_cons (pv 2) pa_nil))))))), ?_⟩
    refine ⟨_, rfl, _, _, rfl, by decide +kernel, .inl ⟨⟨z, ts, rfl, hz⟩, ?_⟩⟩
    refine ⟨_, rfl, _, rfl, g, a, rfl, hg, ha, ?_⟩
    exact ⟨_, rfl, _, rfl, _, rfl, z, g, a, ts, r, rfl, hz, hrun, hne, hl, q⟩
def rsMany (E : XK) (CT : Addr) (H : Hp) : Prop := Rs E CT H [("most", .int 40), ("what", .str "items")]
def spTwo (op : Op) (K : PySem.W.Frag) (C CB CT : Addr) : Sp := fun vs H Q E => ∃ x y : V, vs = [x, y] ∧ ((NoPz K C x H ∧ Rs E CB H [("part", .str "one")]) ∨ (IsPz C x H ∧ NoPz K C y H ∧ Rs E CB H [("part", .str "other")]) ∨
  ∃ (p1 p2 : Addr) (s1 s2 : List Tk), x = .ref p1 ∧ y = .ref p2 ∧ PzAt C H p1 s1 ∧ PzAt C H p2 s2 ∧ s1 ≠ [] ∧ s2 ≠ [] ∧ Tks (s1 ++ s2 ++ [.op op]) ∧
    ((40 < (s1 ++ s2 ++ [Tk.op op]).length ∧ rsMany E CT H) ∨ ((s1 ++ s2 ++ [Tk.op op]).length ≤ 40 ∧ Run StepK [] (s1 ++ s2 ++ [.op op]) [.tru] ∧ ∀ p H', Same H H' → PzAt C H' p (s1 ++ s2 ++ [.op op]) → Q (.ref p) H')))
def spTurned (K : PySem.W.Frag) (C CB CT : Addr) : Sp := fun vs H Q E => ∃ x : V, vs = [x] ∧ ((NoPz K C x H ∧ Rs E CB H [("part", .str "puzzle")]) ∨
  ∃ (p1 : Addr) (s1 : List Tk), x = .ref p1 ∧ PzAt C H p1 s1 ∧ s1 ≠ [] ∧ Tks (s1 ++ [.not]) ∧
    ((40 < (s1 ++ [Tk.not]).length ∧ rsMany E CT H) ∨ ((s1 ++ [Tk.not]).length ≤ 40 ∧ Run StepK [] (s1 ++ [.not]) [.tru] ∧ ∀ p H', Same H H' → PzAt C H' p (s1 ++ [.not]) → Q (.ref p) H')))
theorem scBoth : FnScope ["one", "other"] ["one", "other"] (defScope sBoth) := ⟨rfl, rfl, rfl, by decide +kernel, rfl, by decide +kernel, by decide +kernel⟩
theorem scEither : FnScope ["one", "other"] ["one", "other"] (defScope sEither) := ⟨rfl, rfl, rfl, by decide +kernel, rfl, by decide +kernel, by decide +kernel⟩
theorem scTurned : FnScope ["puzzle"] ["puzzle"] (defScope sTurned) := ⟨rfl, rfl, rfl, by decide +kernel, rfl, by decide +kernel, by decide +kernel⟩
theorem ok_both {f C CB CT : Addr} {fd : FuncData} (F : Fun K "both_of" "both_of" sBoth f fd) (N : NP P w K mg base C CB) (Pz : PzC K mg C) (D1 : Df P w K mg base (L2.CX P w) "joined" 6 ["texts"] (spJoined C CT)) : FnOk P w K mg base (L2.CX P w) 7 f fd ["one", "other"] (spTwo .and K C CB CT) := by
  refine F.okX scBoth (fun vs H Q E h => ?_) (fun cdv A outer s H vs Q E hr h => ?_)
  · obtain ⟨x, y, rfl, _⟩ := h
    rfl
  · obtain ⟨x, y, rfl, h⟩ := h
    obtain ⟨fN, fdN, ds, GN, gN, kN, bN, vN, bN1⟩ := N.ex
    obtain ⟨fJ, fdJ, GJ, gJ, kJ, bJ⟩ := D1.ex
    refine ⟨_, pss_cons (ps_expr (pe_call GN (hr.mono (by decide)) (by rfl) gN kN bN .nil (passes_call (takes_of rfl rfl rfl rfl) fun _ _ _ _ z => z) (pa_cons (pv 0) (pa_cons pe_str pa_nil))))
      (pss_cons (ps_expr (pe_call GN (hr.mono (by decide)) (by rfl) gN kN bN .nil (passes_call (takes_of rfl rfl rfl rfl) fun _ _ _ _ z => z) (pa_cons (pv 1) (pa_cons pe_str pa_nil))))
      (pss_one (ps_ret (pe_call GJ hr (by rfl) gJ kJ bJ .nil (passes_call (takes_of rfl rfl rfl rfl) fun _ _ _ _ z => z) (pa_cons (pe_lst (pa_cons (pe_fld (pv 0) rfl) (pa_cons (pe_fld (pv 1) rfl) (pa_cons pe_str pa_nil)))) pa_nil))))), ?_⟩
    rcases h with ⟨hx, hR⟩ | ⟨hx, hy, hR⟩ | ⟨p1, p2, s1, s2, rfl, rfl, h1, h2, n1, n2, ht, h⟩
    · exact ⟨_, rfl, _, _, rfl, by decide +kernel, .inr ⟨hx, hR⟩⟩
    · refine ⟨_, rfl, _, _, rfl, by decide +kernel, .inl ⟨hx, ?_⟩⟩
      exact ⟨_, rfl, _, _, rfl, by decide +kernel, .inr ⟨hy, hR⟩⟩
    · refine ⟨_, rfl, _, _, rfl, by decide +kernel, .inl ⟨⟨p1, s1, rfl, h1⟩, ?_⟩⟩
      refine ⟨_, rfl, _, _, rfl, by decide +kernel, .inl ⟨⟨p2, s2, rfl, h2⟩, ?_⟩⟩
      obtain ⟨d1, c1, e1, _⟩ := h1.ex
      obtain ⟨d2, c2, e2, _⟩ := h2.ex
      refine ⟨_, rfl, p1, C, d1, _, _, rfl, e1, Pz.cl, Pz.nt, pfl_text _ _, _, rfl, p2, C, d2, _, _, rfl, e2, Pz.cl, Pz.nt, pfl_text _ _, by show 3 ≤ sizeLine; decide, fun l hl => ?_⟩
      have smq : ∀ o, Same H (upd H l o) := fun o b u e => by rw [upd_ne (ne_of_none e hl)]; exact e
      have ef : [s1, s2, [Tk.op .and]].flatten = s1 ++ s2 ++ [Tk.op .and] := by simp
      refine ⟨l, [s1, s2, [.op .and]], rfl, ?_, by simp, ?_, by rw [ef]; exact ht, ?_⟩
      · rw [upd_same]
        show some (HO.lst [V.str (jt s1), V.str (jt s2), V.str "and"]) = some (HO.lst [V.str (jt s1), V.str (jt s2), V.str (jt [.op .and])])
        rw [jt_one]
        rfl
      · intro ts hts
        simp only [List.mem_cons, List.mem_singleton, List.not_mem_nil, or_false] at hts
        rcases hts with rfl | rfl | rfl
        · exact n1
        · exact n2
        · simp
      · rw [ef]
        rcases h with ⟨h40, hR⟩ | ⟨h40, hrun, hQ⟩
        · exact .inl ⟨h40, Rs.of hR (smq _)⟩
        · exact .inr ⟨h40, hrun, fun p H' sm hp => hQ p H' ((smq _).trans sm) hp⟩
theorem ok_either {f C CB CT : Addr} {fd : FuncData} (F : Fun K "either_of" "either_of" sEither f fd) (N : NP P w K mg base C CB) (Pz : PzC K mg C) (D1 : Df P w K mg base (L2.CX P w) "joined" 6 ["texts"] (spJoined C CT)) : FnOk P w K mg base (L2.CX P w) 7 f fd ["one", "other"] (spTwo .or K C CB CT) := by
  refine F.okX scEither (fun vs H Q E h => ?_) (fun cdv A outer s H vs Q E hr h => ?_)
  · obtain ⟨x, y, rfl, _⟩ := h
    rfl
  · obtain ⟨x, y, rfl, h⟩ := h
    obtain ⟨fN, fdN, ds, GN, gN, kN, bN, vN, bN1⟩ := N.ex
    obtain ⟨fJ, fdJ, GJ, gJ, kJ, bJ⟩ := D1.ex
    refine ⟨_, pss_cons (ps_expr (pe_call GN (hr.mono (by decide)) (by rfl) gN kN bN .nil (passes_call (takes_of rfl rfl rfl rfl) fun _ _ _ _ z => z) (pa_cons (pv 0) (pa_cons pe_str pa_nil))))
      (pss_cons (ps_expr (pe_call GN (hr.mono (by decide)) (by rfl) gN kN bN .nil (passes_call (takes_of rfl rfl rfl rfl) fun _ _ _ _ z => z) (pa_cons (pv 1) (pa_cons pe_str pa_nil))))
      (pss_one (ps_ret (pe_call GJ hr (by rfl) gJ kJ bJ .nil (passes_call (takes_of rfl rfl rfl rfl) fun _ _ _ _ z => z) (pa_cons (pe_lst (pa_cons (pe_fld (pv 0) rfl) (pa_cons (pe_fld (pv 1) rfl) (pa_cons pe_str pa_nil)))) pa_nil))))), ?_⟩
    rcases h with ⟨hx, hR⟩ | ⟨hx, hy, hR⟩ | ⟨p1, p2, s1, s2, rfl, rfl, h1, h2, n1, n2, ht, h⟩
    · exact ⟨_, rfl, _, _, rfl, by decide +kernel, .inr ⟨hx, hR⟩⟩
    · refine ⟨_, rfl, _, _, rfl, by decide +kernel, .inl ⟨hx, ?_⟩⟩
      exact ⟨_, rfl, _, _, rfl, by decide +kernel, .inr ⟨hy, hR⟩⟩
    · refine ⟨_, rfl, _, _, rfl, by decide +kernel, .inl ⟨⟨p1, s1, rfl, h1⟩, ?_⟩⟩
      refine ⟨_, rfl, _, _, rfl, by decide +kernel, .inl ⟨⟨p2, s2, rfl, h2⟩, ?_⟩⟩
      obtain ⟨d1, c1, e1, _⟩ := h1.ex
      obtain ⟨d2, c2, e2, _⟩ := h2.ex
      refine ⟨_, rfl, p1, C, d1, _, _, rfl, e1, Pz.cl, Pz.nt, pfl_text _ _, _, rfl, p2, C, d2, _, _, rfl, e2, Pz.cl, Pz.nt, pfl_text _ _, by show 3 ≤ sizeLine; decide, fun l hl => ?_⟩
      have smq : ∀ o, Same H (upd H l o) := fun o b u e => by rw [upd_ne (ne_of_none e hl)]; exact e
      have ef : [s1, s2, [Tk.op .or]].flatten = s1 ++ s2 ++ [Tk.op .or] := by simp
      refine ⟨l, [s1, s2, [.op .or]], rfl, ?_, by simp, ?_, by rw [ef]; exact ht, ?_⟩
      · rw [upd_same]
        show some (HO.lst [V.str (jt s1), V.str (jt s2), V.str "or"]) = some (HO.lst [V.str (jt s1), V.str (jt s2), V.str (jt [.op .or])])
        rw [jt_one]
        rfl
      · intro ts hts
        simp only [List.mem_cons, List.mem_singleton, List.not_mem_nil, or_false] at hts
        rcases hts with rfl | rfl | rfl
        · exact n1
        · exact n2
        · simp
      · rw [ef]
        rcases h with ⟨h40, hR⟩ | ⟨h40, hrun, hQ⟩
        · exact .inl ⟨h40, Rs.of hR (smq _)⟩
        · exact .inr ⟨h40, hrun, fun p H' sm hp => hQ p H' ((smq _).trans sm) hp⟩
theorem ok_turned {f C CB CT : Addr} {fd : FuncData} (F : Fun K "turned_of" "turned_of" sTurned f fd) (N : NP P w K mg base C CB) (Pz : PzC K mg C) (D1 : Df P w K mg base (L2.CX P w) "joined" 6 ["texts"] (spJoined C CT)) : FnOk P w K mg base (L2.CX P w) 7 f fd ["puzzle"] (spTurned K C CB CT) := by
  refine F.okX scTurned (fun vs H Q E h => ?_) (fun cdv A outer s H vs Q E hr h => ?_)
  · obtain ⟨x, rfl, _⟩ := h
    rfl
  · obtain ⟨x, rfl, h⟩ := h
    obtain ⟨fN, fdN, ds, GN, gN, kN, bN, vN, bN1⟩ := N.ex
    obtain ⟨fJ, fdJ, GJ, gJ, kJ, bJ⟩ := D1.ex
    refine ⟨_, pss_cons (ps_expr (pe_call GN (hr.mono (by decide)) (by rfl) gN kN bN1 vN (passes_call (takes_of rfl rfl rfl rfl) fun _ _ _ _ z => z) (pa_cons (pv 0) pa_nil)))
      (pss_one (ps_ret (pe_call GJ hr (by rfl) gJ kJ bJ .nil (passes_call (takes_of rfl rfl rfl rfl) fun _ _ _ _ z => z) (pa_cons (pe_lst (pa_cons (pe_fld (pv 0) rfl) (pa_cons pe_str pa_nil))) pa_nil)))), ?_⟩
    rcases h with ⟨hx, hR⟩ | ⟨p1, s1, rfl, h1, n1, ht, h⟩
    · exact ⟨_, rfl, _, _, rfl, by decide +kernel, .inr ⟨hx, hR⟩⟩
    · refine ⟨_, rfl, _, _, rfl, by decide +kernel, .inl ⟨⟨p1, s1, rfl, h1⟩, ?_⟩⟩
      obtain ⟨d1, c1, e1, _⟩ := h1.ex
      refine ⟨_, rfl, p1, C, d1, _, _, rfl, e1, Pz.cl, Pz.nt, pfl_text _ _, by show 2 ≤ sizeLine; decide, fun l hl => ?_⟩
      have smq : ∀ o, Same H (upd H l o) := fun o b u e => by rw [upd_ne (ne_of_none e hl)]; exact e
      have ef : [s1, [Tk.not]].flatten = s1 ++ [Tk.not] := by simp
      refine ⟨l, [s1, [.not]], rfl, ?_, by simp, ?_, by rw [ef]; exact ht, ?_⟩
      · rw [upd_same]
        show some (HO.lst [V.str (jt s1), V.str "not"]) = some (HO.lst [V.str (jt s1), V.str (jt [.not])])
        rw [jt_one]
        rfl
      · intro ts hts
        simp only [List.mem_cons, List.mem_singleton, List.not_mem_nil, or_false] at hts
        rcases hts with rfl | rfl
        · exact n1
        · simp
      · rw [ef]
        rcases h with ⟨h40, hR⟩ | ⟨h40, hrun, hQ⟩
        · exact .inl ⟨h40, Rs.of hR (smq _)⟩
        · exact .inr ⟨h40, hrun, fun p H' sm hp => hQ p H' ((smq _).trans sm) hp⟩
end
end Dt

set_option Elab.async false
set_option linter.all false
set_option maxRecDepth 100000
set_option maxHeartbeats 2000000
namespace Dt
open PySem PySem.Spec PyProof.Rows L2 DtR
/-- what the law draws from, after n draws at most -/
structure WeftAt (H : Hp) (wf : Addr) (n : Nat) : Prop where
  ex : ∃ (cl : Addr) (at_ rest : Int) (ms : List Int), H wf = some (.lst [.ref cl, .int at_, .int rest]) ∧ H cl = some (.lst (ms.map V.int)) ∧ 0 ≤ at_ ∧ at_ ≤ n ∧ ms.length ≤ 63
theorem WeftAt.mono {H : Hp} {wf : Addr} {n m : Nat} (h : WeftAt H wf n) (e : n ≤ m) : WeftAt H wf m := by
  obtain ⟨cl, at_, rest, ms, h1, h2, h3, h4, h5⟩ := h.ex
  exact ⟨cl, at_, rest, ms, h1, h2, h3, by omega, h5⟩
theorem WeftAt.same {H H' : Hp} {wf : Addr} {n : Nat} (h : WeftAt H wf n) (e : Same H H') : WeftAt H' wf n := by
  obtain ⟨cl, at_, rest, ms, h1, h2, h3, h4, h5⟩ := h.ex
  exact ⟨cl, at_, rest, ms, e _ _ h1, e _ _ h2, h3, h4, h5⟩
/-- all but the weft is as it was -/
def SameW (wf : Addr) (H H' : Hp) : Prop := ∀ b o, H b = some o → b ≠ wf → H' b = some o
theorem SameW.refl (wf : Addr) (H : Hp) : SameW wf H H := fun _ _ h _ => h
theorem SameW.trans {wf : Addr} {H H1 H2 : Hp} (a : SameW wf H H1) (b : SameW wf H1 H2) : SameW wf H H2 := fun c o h n => b c o (a c o h n) n
theorem SameW.of {wf : Addr} {H H' : Hp} (s : Same H H') : SameW wf H H' := fun b o e _ => s b o e
/-- the weft's cells stay the same object -/
def KeepC (wf : Addr) (H H' : Hp) : Prop := ∀ cl xs, H wf = some (.lst (V.ref cl :: xs)) → ∃ ys, H' wf = some (.lst (V.ref cl :: ys))
theorem dpInts {K : PySem.W.Frag} {H : Hp} : ∀ ms : List Int, DpAll K H (ms.map V.int) (ms.map PyData.int)
  | [] => .nil
  | m :: ms => .cons (.int m) (dpInts ms)
theorem ints_can : ∀ ms : List Int, PyData.canLayAll0 (ms.map PyData.int) = true
  | [] => by simp [PyData.canLayAll0]
  | m :: ms => by
    rw [List.map_cons, PyData.canLayAll0, ints_can ms]
    simp [PyData.canLay0]
theorem ints_depth : ∀ ms : List Int, PyData.depthAll (ms.map PyData.int) = 0
  | [] => by simp [PyData.depthAll]
  | m :: ms => by
    rw [List.map_cons, PyData.depthAll, ints_depth ms]
    simp [PyData.depth]
theorem ints_shaped (ms : List Int) : SeqAt.shaped (.list (ms.map PyData.int)) = true := by
  unfold SeqAt.shaped
  rw [PyData.canLay0, PyData.depth, ints_can, ints_depth]
  rfl
theorem at_in (ms : List Int) {i : Int} (h0 : 0 ≤ i) (h1 : i < (ms.length : Int)) : ∃ c : Int, atI (ms.map V.int) i = some (.int c) := by
  obtain ⟨j, rfl⟩ : ∃ j : Nat, i = (j : Int) := ⟨i.toNat, by omega⟩
  have hj : j < ms.length := by omega
  exact ⟨ms[j], atI_nat (by simp [hj])⟩
section
variable {P : Program} {w : World} {K : PySem.W.Frag} {mg : Str → Option Value} {base : Heap}
def spWeft (K : PySem.W.Frag) : Sp := fun vs H Q _ => ∃ (a : Addr) (ns : List Int), vs = [.ref a] ∧ SqL K H a (ns.map V.int) ∧ ns.length ≤ 63 ∧ ∀ wf H', Same H H' → H wf = none → WeftAt H' wf 0 → Q (.ref wf) H'
theorem scWeft : FnScope ["_law_script", "_law_cell"] ["_law_script"] (defScope sWeft) := ⟨rfl, rfl, rfl, by decide +kernel, rfl, by decide +kernel, by decide +kernel⟩
theorem cut_ints (ns : List Int) (lo hi : Option Int) : ∃ ms : List Int, cutV (ns.map V.int) lo hi = ms.map V.int ∧ ms.length ≤ ns.length := by
  have hl := cutV_length (ns.map V.int) lo hi
  refine ⟨(ns.drop (HT.sIx ns.length 0 lo)).take (HT.sIx ns.length ns.length hi - HT.sIx ns.length 0 lo), ?_, ?_⟩
  · unfold cutV
    rw [List.length_map, List.map_take, List.map_drop]
  · rw [List.length_take, List.length_drop]
    omega
theorem ok_weft {f : Addr} {fd : FuncData} (F : Fun K "_law_weft" "_law_weft" sWeft f fd) (T : Nm mg) : FnOk P w K mg base CX0 1 f fd ["_law_script"] (spWeft K) := by
  refine F.ok scWeft (fun vs H Q E h => ?_) (fun cdv A outer s H vs Q E hr h => ?_)
  · obtain ⟨a, ns, rfl, _⟩ := h
    rfl
  · obtain ⟨a, ns, rfl, hS, hlen, q⟩ := h
    refine ⟨_, pss_one (ps_ret (pe_lst (pa_cons (pe_lc (own := [("_law_cell", 1)]) (g := gName 1) (tt := tYes) rfl scWeft.nd (pi_list (pe_slice sl_list (pv 0) po_none (po_some pe_int))) (blkOk_by (N := ["_law_script", "_law_cell"]) (sc := defScope sWeft) (by decide +kernel))
            (fun _ _ _ _ _ => pg_name (i := 1) scWeft.nd rfl (Or.inl rfl)) (fun _ _ _ _ _ => pts_nil) (fun _ _ _ _ _ => pe_callTy call_int1 (by rfl) T.int boot_int (pa_cons (pv 1) pa_nil))) (pa_cons pe_int (pa_cons pe_int pa_nil))))), ?_⟩
    obtain ⟨ms, em, hml⟩ := cut_ints ns none (some 60)
    refine ⟨_, rfl, _, rfl, a, _, rfl, hS, fun p hp => ?_⟩
    rw [em]
    have sm1 : Same H (upd H p (.lst (ms.map V.int))) := fun b o e => by rw [upd_ne (ne_of_none e hp)]; exact e
    refine ⟨p, rfl, ⟨_, SqL.of upd_same⟩, fun D hD => lc_list (K := K) (a := p) (xs := ms.map V.int) (fun i H2 => Same H H2 ∧ H2 p = some (.lst (ms.map V.int)) ∧ H2 D = some (.lst ((ms.take i).map V.int)))
      ⟨fun b o e => by rw [upd_ne (ne_of_none (sm1 _ _ e) hD)]; exact sm1 _ _ e, by rw [upd_ne (ne_of_none upd_same hD), upd_same], upd_same⟩ (fun i H2 _ ⟨_, h2, _⟩ => SqL.of h2) (fun i x H2 hx ⟨sm, h2, h3⟩ => ?_) (fun H2 ⟨sm, h2, h3⟩ => ?_)⟩
    · have hil : i < (ms.map V.int).length := (List.getElem?_eq_some_iff.mp hx).1
      rw [List.length_map] at hil
      have ex : x = V.int ms[i] := by
        rw [List.getElem?_map, List.getElem?_eq_getElem hil] at hx
        exact (Option.some.inj hx).symm
      subst ex
      have ndp : p ≠ D := ne_of_none upd_same hD
      refine ⟨rfl, ?_⟩
      refine ⟨_, rfl, .inl ⟨_, rfl, _, h3, by refine small1000 ?_; rw [List.length_map, List.length_take]; omega, ?_⟩⟩
      refine ⟨fun b o e => ?_, by rw [upd_ne ndp]; exact h2, ?_⟩
      · have nb : b ≠ D := fun z => by
          have h4 := sm1 _ _ e
          rw [z, hD] at h4
          cases h4
        rw [upd_ne nb]
        exact sm _ _ e
      · rw [upd_same, List.take_succ_eq_append_getElem hil, List.map_append]
        rfl
    · rw [List.length_map, List.take_length] at h3
      refine ⟨by show 3 ≤ sizeLine; decide, fun l hl => ?_⟩
      refine q l _ (fun b o e => by rw [upd_ne (ne_of_none (sm _ _ e) hl)]; exact sm _ _ e) (sm.free hl) ⟨D, 0, 0, ms, upd_same, ?_, by omega, by omega, by omega⟩
      rw [upd_ne (ne_of_none h3 hl)]
      exact h3
def spThrow : Sp := fun vs H Q _ => ∃ (wf : Addr) (m : Int) (n : Nat), vs = [.ref wf, .int m] ∧ WeftAt H wf n ∧ 0 < m ∧ m < 1000000 ∧ n ≤ 1000000 ∧ ∀ (r : Int) H', 0 ≤ r → r < m → SameW wf H H' → WeftAt H' wf (n + 1) → KeepC wf H H' → Q (.int r) H'
theorem scThrow : FnScope ["_law_weft_here", "_law_many", "_law_rest_here", "_law_at", "_law_cell", "_law_mixed"] ["_law_weft_here", "_law_many"] (defScope sThrow) := ⟨rfl, rfl, rfl, by decide +kernel, rfl, by decide +kernel, by decide +kernel⟩
theorem ok_throw {f : Addr} {fd : FuncData} (F : Fun K "_law_throw" "_law_throw" sThrow f fd) (T : Nm mg) : FnOk P w K mg base CX0 1 f fd ["_law_weft_here", "_law_many"] spThrow := by
  refine F.ok scThrow (fun vs H Q E h => ?_) (fun cdv A outer s H vs Q E hr h => ?_)
  · obtain ⟨wf, m, n, rfl, _⟩ := h
    rfl
  · obtain ⟨wf, m, n, rfl, hw, hm0, hm1, hn, q⟩ := h
    obtain ⟨cl, at_, rest, ms, h1, h2, h3, h4, h5⟩ := hw.ex
    have bL : bootBuiltins ("abs" : Str) = some (.builtin "abs") := by decide +kernel
    refine ⟨_, pss_cons (ps_if (pt_cmpR op_gt (pe_ix ix_list (pv 0) pe_int (fun _ _ => rfl)) pe_int (nomark _))
        (pss_cons (ps_set (i := 2) scThrow.nd rfl (.inl rfl) (pe_callTy call_int1 (by rfl) T.int boot_int (pa_cons (pe_ix ix_list (pv 0) pe_int (fun _ _ => rfl)) pa_nil)))
        (pss_cons (ps_asg (pe_op op_fdivN (pv 2) (pv 1)) (pg_sub (pv 0) pe_int set_list (fun _ => rfl)))
        (pss_one (ps_ret (pe_op op_modN (pe_callTy call_int1 (by rfl) T.int boot_int (pa_cons (pv 2) pa_nil)) (pv 1)))))) pss_nil)
      (pss_cons (ps_set (i := 3) scThrow.nd rfl (.inl rfl) (pe_ix ix_list (pv 0) pe_int (fun _ _ => rfl)))
      (pss_cons (ps_asg (pe_op op_add (pv 3) pe_int) (pg_sub (pv 0) pe_int set_list (fun _ => rfl)))
      (pss_cons (ps_set (i := 4) scThrow.nd rfl (.inl rfl) (pe_op op_add (pe_op op_mul pe_int (pv 3)) pe_int))
      (pss_cons (ps_if (pt_cmpR (op_neD hr.units) (pe_ix ix_list (pv 0) pe_int (fun _ _ => rfl)) (pe_lst pa_nil) (nomark _))
        (pss_one (ps_set (i := 4) scThrow.nd rfl (.inl rfl) (pe_ix ix_list (pe_ix ix_list (pv 0) pe_int (fun _ _ => rfl)) (pe_op op_modN (pe_callTy call_int1 (by rfl) T.int boot_int (pa_cons (pv 3) pa_nil)) (pe_callB call_len (by rfl) T.len PySem.boot_len (pa_cons (pe_ix ix_list (pv 0) pe_int (fun _ _ => rfl)) pa_nil))) (fun _ _ => rfl)))) pss_nil)
      (pss_cons (ps_if (PW.pt (pw_and (pt_cmpR op_lt (pv 3) (pe_callB call_len (by rfl) T.len PySem.boot_len (pa_cons (pe_ix ix_list (pv 0) pe_int (fun _ _ => rfl)) pa_nil)) (nomark _)) (pw_and1 (pt_cmpR op_ge (pe_callB call_abs (by rfl) T.abs bL (pa_cons (pv 4) pa_nil)) (pe_op op_pow pe_int pe_int) (nomark _)))))
        (pss_cons (ps_set (i := 2) scThrow.nd rfl (.inl rfl) (pe_op op_add (pe_op op_mul pe_int (pe_op op_sub (pe_callB call_abs (by rfl) T.abs bL (pa_cons (pv 4) pa_nil)) (pe_op op_pow pe_int pe_int))) (pe_callTy call_int1 (by rfl) T.int boot_int (pa_cons (pe_cmpR op_lt (pv 4) pe_int (nomark _)) pa_nil))))
        (pss_cons (ps_asg (pe_op op_fdivN (pv 2) (pv 1)) (pg_sub (pv 0) pe_int set_list (fun _ => rfl)))
        (pss_one (ps_ret (pe_op op_modN (pe_callTy call_int1 (by rfl) T.int boot_int (pa_cons (pv 2) pa_nil)) (pv 1)))))) pss_nil)
      (pss_cons (ps_set (i := 5) scThrow.nd rfl (.inl rfl) (pe_op op_modN (pe_callTy call_int1 (by rfl) T.int boot_int (pa_cons (pe_op op_pow (pe_op op_add (pe_op op_add (pe_op op_modN (pe_callTy call_int1 (by rfl) T.int boot_int (pa_cons (pv 4) pa_nil)) pe_int) (pe_op op_mul pe_int (pv 3))) pe_int) pe_int) pa_nil)) pe_int))
      (pss_cons (ps_set (i := 5) scThrow.nd rfl (.inl rfl) (pe_op op_modN (pe_callTy call_int1 (by rfl) T.int boot_int (pa_cons (pe_op op_pow (pe_op op_add (pe_op op_add (pe_op op_mul (pv 5) (pe_op op_add (pe_op op_mul pe_int (pv 3)) pe_int)) (pe_op op_mul (pe_op op_mul pe_int (pv 3)) (pv 3))) pe_int) pe_int) pa_nil)) pe_int))
      (pss_one (ps_ret (pe_op op_modN (pe_callTy call_int1 (by rfl) T.int boot_int (pa_cons (pe_op op_fdivN (pv 5) pe_int) pa_nil)) (pv 1))))))))))), ?_⟩
    have mod_ok : ∀ x : Int, 0 ≤ x.fmod m ∧ x.fmod m < m := fun x => by
      rw [Int.fmod_eq_emod_of_nonneg x (by omega)]
      exact ⟨Int.emod_nonneg x (by omega), Int.emod_lt_of_pos x hm0⟩
    have mod_of : ∀ (x k : Int), 0 < k → 0 ≤ x.fmod k ∧ x.fmod k < k := fun x k hk => by
      rw [Int.fmod_eq_emod_of_nonneg x (by omega)]
      exact ⟨Int.emod_nonneg x (by omega), Int.emod_lt_of_pos x hk⟩
    have ncw : cl ≠ wf := fun e => by
      rw [e, h1] at h2
      have h6 := HO.lst.inj (Option.some.inj h2)
      cases ms with
      | nil => cases h6
      | cons a ms => cases h6
    have fin : ∀ (r a' r' : Int) (H' : Hp), 0 ≤ r → r < m → 0 ≤ a' → a' ≤ n + 1 → SameW wf H H' → H' wf = some (.lst [.ref cl, .int a', .int r']) → Q (.int r) H' := fun r a' r' H' e1 e2 e3 e4 sm e5 =>
      q r H' e1 e2 sm ⟨cl, a', r', ms, e5, sm _ _ h2 ncw, e3, by omega, h5⟩ fun cl2 xs ez => by
        rw [h1] at ez
        have z2 := HO.lst.inj (Option.some.inj ez)
        cases z2
        exact ⟨_, e5⟩
    have at_b : -(2 ^ 64) < 62047 * at_ ∧ 62047 * at_ < 2 ^ 64 := by omega
    have mul_b : ∀ x : Int, -(2 ^ 64) < x.fmod 2147483563 ∧ x.fmod 2147483563 < 2 ^ 64 := fun x => by
      have h := mod_of x 2147483563 (by decide)
      omega
    have pow_b : ∀ x : Int, (x.fmod 2147483629 + 38237 * at_ + 7547).natAbs < 2 ^ 64 := fun x => by
      have h := mod_of x 2147483629 (by decide)
      omega
    have pow_b2 : ∀ x : Int, (x.fmod 2147483563 * (2 * at_ + 4339) + 62047 * at_ * at_ + 38237).natAbs < 2 ^ 64 := fun x => by
      have h := mod_of x 2147483563 (by decide)
      have a1 : x.fmod 2147483563 * (2 * at_ + 4339) ≤ 2147483563 * 2004339 := Int.mul_le_mul (by omega) (by omega) (by omega) (by decide)
      have a2 : 0 ≤ x.fmod 2147483563 * (2 * at_ + 4339) := Int.mul_nonneg h.1 (by omega)
      have a3 : 62047 * at_ * at_ ≤ 62047000000 * 1000000 := Int.mul_le_mul (by omega) (by omega) (by omega) (by decide)
      have a4 : 0 ≤ 62047 * at_ * at_ := Int.mul_nonneg (by omega) h3
      omega
    have nz1 : (2147483629 : Int) ≠ 0 := by decide
    have nz2 : (2147483563 : Int) ≠ 0 := by decide
    have nz3 : (2147483549 : Int) ≠ 0 := by decide
    have m30 : m ≠ 0 ∧ m.natAbs < 1073741824 := ⟨by omega, by omega⟩
    -- weft[2] > 0
    refine ⟨_, rfl, wf, _, ((2 : Nat) : Int), V.int rest, rfl, rfl, SqL.of h1, atI_nat rfl, _, _, rfl, rfl, decide (0 < rest), rfl, ?_⟩
    refine iteC (fun _ => ?_) (fun _ => ?_)
    · refine ⟨_, rfl, wf, _, ((2 : Nat) : Int), V.int rest, rfl, rfl, SqL.of h1, atI_nat rfl, .inl ⟨_, rfl, ?_⟩⟩
      refine ⟨_, rfl, _, rfl, _, _, rfl, rfl, m30, _, rfl, wf, _, _, 2, rfl, rfl, h1, rfl, ?_⟩
      refine ⟨_, rfl, .inl ⟨_, rfl, _, rfl, _, _, rfl, rfl, m30.1, ?_⟩⟩
      exact fin _ at_ (rest.fdiv m) _ (mod_ok rest).1 (mod_ok rest).2 h3 (by omega) (fun b o e hb => by rw [upd_ne hb]; exact e) upd_same
    -- at
    refine ⟨_, rfl, wf, _, ((1 : Nat) : Int), V.int at_, rfl, rfl, SqL.of h1, atI_nat rfl, ?_⟩
    refine ⟨_, rfl, _, _, rfl, rfl, _, rfl, wf, _, _, 1, rfl, rfl, h1, rfl, ?_⟩
    have sm2 : SameW wf H (upd H wf (.lst [.ref cl, .int (at_ + 1), .int rest])) := fun b o e hb => by rw [upd_ne hb]; exact e
    have e2 : upd H wf (.lst [.ref cl, .int (at_ + 1), .int rest]) wf = some (.lst [.ref cl, .int (at_ + 1), .int rest]) := upd_same
    show tSeq _ _ _ _ (upd H wf (.lst [.ref cl, .int (at_ + 1), .int rest]))
    generalize upd H wf (.lst [.ref cl, .int (at_ + 1), .int rest]) = H2 at sm2 e2
    have c2 := sm2 _ _ h2 ncw
    -- cell
    refine ⟨_, rfl, _, _, rfl, rfl, .inl ⟨by decide, by decide⟩, _, _, rfl, rfl, ?_⟩
    refine ⟨_, rfl, wf, _, ((0 : Nat) : Int), V.ref cl, rfl, rfl, SqL.of e2, atI_nat rfl, by show 0 ≤ sizeLine; decide, fun p hp => ?_⟩
    have smp : Same H2 (upd H2 p (.lst [])) := fun b o e => by rw [upd_ne (ne_of_none e hp)]; exact e
    have hpn : upd H2 p (.lst []) p = some (.lst []) := upd_same
    show rNeD _ _ _ (upd H2 p (.lst [])) _
    generalize upd H2 p (.lst []) = H3 at smp hpn
    have e3 := smp _ _ e2
    have c3 := smp _ _ c2
    have sm3 : SameW wf H H3 := fun b o e hb => smp _ _ (sm2 b o e hb)
    refine ⟨.list (ms.map PyData.int), .list [], .lst (SqL.of c3) (dpInts ms), .lst (SqL.of hpn) .nil, ints_shaped ms, by decide +kernel, decide (ms ≠ []), ?_, ?_⟩
    · cases ms with
      | nil => rfl
      | cons a r => rfl
    refine iteC (fun z => ?A) (fun z => ?B)
    case' A =>
      have hne : 0 < (ms.length : Int) := by
        have : ms ≠ [] := of_decide_eq_true z
        have := List.length_pos_iff.mpr this
        omega
      have hm := mod_of at_ (ms.length : Int) hne
      obtain ⟨c, hc⟩ := at_in ms hm.1 hm.2
      refine ⟨_, rfl, wf, _, ((0 : Nat) : Int), V.ref cl, rfl, rfl, SqL.of e3, atI_nat rfl, _, rfl, .inl ⟨_, rfl, _, rfl, wf, _, ((0 : Nat) : Int), V.ref cl, rfl, rfl, SqL.of e3, atI_nat rfl, _, ms.length, rfl, .inl ⟨_, SqL.of c3, by simp⟩, _, _, rfl, rfl, by omega, cl, _, _, V.int c, rfl, rfl, SqL.of c3, hc, ?_⟩⟩
    all_goals
      refine ⟨_, rfl, _, rfl, wf, _, ((0 : Nat) : Int), V.ref cl, rfl, rfl, SqL.of e3, atI_nat rfl, _, ms.length, rfl, .inl ⟨_, SqL.of c3, by simp⟩, _, _, rfl, rfl, _, rfl, ?_⟩
      refine iteC (fun z1 => ⟨_, rfl, _, rfl, _, _, rfl, rfl, ⟨by decide, by decide, by decide⟩, _, _, rfl, rfl, _, rfl, iteC (fun z2 => ?_) (fun z2 => ?_)⟩) (fun z1 => iteF ?_)
      · refine ⟨_, rfl, _, rfl, _, _, rfl, rfl, ⟨by decide, by decide, by decide⟩, _, _, rfl, rfl, _, _, rfl, rfl, .inl ⟨by decide, by decide⟩, _, rfl, _, _, rfl, rfl, .inr ⟨_, rfl, _, _, rfl, rfl, ?_⟩⟩
        refine ⟨_, rfl, _, rfl, _, _, rfl, rfl, m30, _, rfl, wf, _, _, 2, rfl, rfl, e3, rfl, ?_⟩
        refine ⟨_, rfl, .inl ⟨_, rfl, _, rfl, _, _, rfl, rfl, m30.1, ?_⟩⟩
        exact fin _ (at_ + 1) _ _ (mod_ok _).1 (mod_ok _).2 (by omega) (by omega) (fun b o e hb => by rw [upd_ne hb]; exact sm3 b o e hb) upd_same
      all_goals
        refine ⟨_, rfl, .inl ⟨_, rfl, _, _, rfl, rfl, nz1, _, rfl, _, _, rfl, rfl, .inl ⟨by decide, by decide⟩, _, _, rfl, rfl, _, _, rfl, rfl, _, _, rfl, rfl, ⟨by decide, by decide, pow_b _⟩, .inl ⟨_, rfl, _, _, rfl, rfl, nz2, ?_⟩⟩⟩
        refine ⟨_, rfl, _, rfl, _, _, rfl, rfl, .inl ⟨by decide, by decide⟩, _, _, rfl, rfl, _, _, rfl, rfl, .inl (mul_b _), _, rfl, _, _, rfl, rfl, .inl ⟨by decide, by decide⟩, _, rfl, _, _, rfl, rfl, .inl at_b, _, _, rfl, rfl, _, _, rfl, rfl, _, _, rfl, rfl, ⟨by decide, by decide, pow_b2 _⟩, .inl ⟨_, rfl, _, _, rfl, rfl, nz3, ?_⟩⟩
        refine ⟨_, rfl, _, _, rfl, rfl, ⟨by decide, by decide⟩, .inl ⟨_, rfl, _, rfl, _, _, rfl, rfl, m30.1, ?_⟩⟩
        exact fin _ (at_ + 1) _ _ (mod_ok _).1 (mod_ok _).2 (by omega) (by omega) sm3 e3
end
end Dt

set_option Elab.async false
set_option linter.all false
set_option maxRecDepth 100000
set_option maxHeartbeats 2000000
namespace Dt
open PySem PySem.Spec PyProof.Rows L2 DtR
def Dc : Nat → Nat
  | 0 => 2
  | d + 1 => 2 * Dc d + 2
def Lc : Nat → Nat
  | 0 => 1
  | d + 1 => 2 * Lc d + 1
def Dt' : Nat → Nat
  | 0 => 32
  | d + 1 => 2 * Dt' d + 2
def Lt : Nat → Nat
  | 0 => 15
  | d + 1 => 2 * Lt d + 1
theorem itemsV_app (a b : List Tk) : itemsV (a ++ b) = itemsV a ++ itemsV b := List.map_append
theorem at_mem {xs : List V} {i : Int} (h0 : 0 ≤ i) (h1 : i < (xs.length : Int)) : ∃ v, atI xs i = some v ∧ v ∈ xs := by
  obtain ⟨j, rfl⟩ : ∃ j : Nat, i = (j : Int) := ⟨i.toNat, by omega⟩
  have hj : j < xs.length := by omega
  exact ⟨xs[j], atI_nat (by simp [hj]), List.getElem_mem hj⟩
theorem WeftAt.ne {H : Hp} {wf l : Addr} {n : Nat} {ts : List Tk} (h : WeftAt H wf n) (e : H l = some (.lst (itemsV ts))) : l ≠ wf := fun z => by
  obtain ⟨cl, a, r, ms, h1, _⟩ := h.ex
  rw [z, h1] at e
  have h6 := HO.lst.inj (Option.some.inj e)
  cases ts with
  | nil => cases h6
  | cons t ts => cases h6
section
variable {P : Program} {w : World} {K : PySem.W.Frag} {mg : Str → Option Value} {base : Heap}
abbrev Dt_upd (H : Hp) (l : Addr) (xs : List V) : Hp := upd H l (.lst xs)
def spOne : Sp := fun vs H Q _ => ∃ (wf l : Addr) (xs : List V) (n : Nat), vs = [.ref wf, .ref l] ∧ WeftAt H wf n ∧ H l = some (.lst xs) ∧ l ≠ wf ∧ 0 < xs.length ∧ xs.length < 1000 ∧ n ≤ 1000000 ∧ ∀ v H', v ∈ xs → SameW wf H H' → WeftAt H' wf (n + 1) → Q v H'
theorem scOne : FnScope ["_law_weft_here", "_law_some"] ["_law_weft_here", "_law_some"] (defScope sOne) := ⟨rfl, rfl, rfl, by decide +kernel, rfl, by decide +kernel, by decide +kernel⟩
theorem ok_one {f : Addr} {fd : FuncData} (F : Fun K "_law_one" "_law_one" sOne f fd) (T : Nm mg) (D1 : Df P w K mg base CX0 "_law_throw" 1 ["_law_weft_here", "_law_many"] spThrow) : FnOk P w K mg base CX0 2 f fd ["_law_weft_here", "_law_some"] spOne := by
  refine F.ok scOne (fun vs H Q E h => ?_) (fun cdv A outer s H vs Q E hr h => ?_)
  · obtain ⟨wf, l, xs, n, rfl, _⟩ := h
    rfl
  · obtain ⟨wf, l, xs, n, rfl, hw, hl, nl, x0, x1, hn, q⟩ := h
    refine ⟨_, pss_one (ps_ret (pe_ix ix_list (pv 1) (pcD D1 hr (by decide) (by rfl) (pa_cons (pv 0) (pa_cons (pe_callB call_len (by rfl) T.len PySem.boot_len (pa_cons (pv 1) pa_nil)) pa_nil))) (fun _ _ => rfl))), ?_⟩
    refine ⟨_, rfl, _, rfl, _, rfl, _, xs.length, rfl, .inl ⟨_, SqL.of hl, rfl⟩, wf, _, n, rfl, hw, by omega, by omega, hn, fun r H' r0 r1 sm w' _ => ?_⟩
    obtain ⟨v, hv, hm⟩ := at_mem r0 r1
    exact ⟨l, xs, r, v, rfl, rfl, SqL.of (sm _ _ hl nl), hv, q v H' hm sm w'⟩
def LeafT (t : Tk) : Prop := t = .a ∨ t = .n ∨ ∃ k : Int, t = .num k ∧ -45 ≤ k ∧ k ≤ 45
def spCount (d : Nat) : Sp := fun vs H Q _ => ∃ (wf : Addr) (deep : Int) (n : Nat), vs = [.ref wf, .int deep] ∧ WeftAt H wf n ∧ 0 ≤ deep ∧ deep ≤ d ∧ n + Dc d ≤ 1000000 ∧
  ∀ l ts H', CountT d ts → ts.length ≤ Lc d → H l = none → H' l = some (.lst (itemsV ts)) → SameW wf H H' → WeftAt H' wf (n + Dc d) → Q (.ref l) H'
theorem scCount : FnScope ["_law_weft_here", "_law_deep"] ["_law_weft_here", "_law_deep"] (defScope sCount) := ⟨rfl, rfl, rfl, by decide +kernel, rfl, by decide +kernel, by decide +kernel⟩
theorem leaf_txt {r : Int} (h0 : 0 ≤ r) (h1 : r < 90) {v : V} (h : v ∈ [V.str "a", V.str "n", V.str "a", V.str "n", V.str "0", V.str "1", V.str "2", V.str "-1", V.str "3", V.str "-2", V.str "7", V.str (toString (r - 45) : String)]) : ∃ t, v = .str t.txt ∧ LeafT t := by
  simp only [List.mem_cons, List.not_mem_nil, or_false] at h
  have num : ∀ k : Int, -45 ≤ k → k ≤ 45 → ∃ t, V.str (numT k) = .str t.txt ∧ LeafT t := fun k h1 h2 => ⟨.num k, rfl, .inr (.inr ⟨k, rfl, h1, h2⟩)⟩
  rcases h with rfl | rfl | rfl | rfl | rfl | rfl | rfl | rfl | rfl | rfl | rfl | rfl
  · exact ⟨.a, rfl, .inl rfl⟩
  · exact ⟨.n, rfl, .inr (.inl rfl)⟩
  · exact ⟨.a, rfl, .inl rfl⟩
  · exact ⟨.n, rfl, .inr (.inl rfl)⟩
  · exact num 0 (by decide) (by decide)
  · exact num 1 (by decide) (by decide)
  · exact num 2 (by decide) (by decide)
  · exact num (-1) (by decide) (by decide)
  · exact num 3 (by decide) (by decide)
  · exact num (-2) (by decide) (by decide)
  · exact num 7 (by decide) (by decide)
  · exact num (r - 45) (by omega) (by omega)
theorem SameW.free {wf l : Addr} {H H' : Hp} {n : Nat} (s : SameW wf H H') (hw : WeftAt H' wf n) (h : H' l = none) : H l = none := by
  cases e : H l with
  | none => rfl
  | some o =>
    by_cases hb : l = wf
    · obtain ⟨cl, a, r, ms, h1, _⟩ := hw.ex
      rw [hb, h1] at h
      cases h
    · rw [s l o e hb] at h
      cases h
theorem WeftAt.neN {H : Hp} {wf l : Addr} {n : Nat} (h : WeftAt H wf n) (e : H l = none) : l ≠ wf := fun z => by
  obtain ⟨cl, a, r, ms, h1, _⟩ := h.ex
  rw [z, h1] at e
  cases e
theorem WeftAt.upd {H : Hp} {wf l : Addr} {n : Nat} {o : HO} (h : WeftAt H wf n) (e : H l = none) : WeftAt (upd H l o) wf n := h.same fun b u z => by rw [upd_ne (ne_of_none z e)]; exact z
theorem SameW.upd {H H' : Hp} {wf l : Addr} {o : HO} (s : SameW wf H H') (e : H' l = none) : SameW wf H (upd H' l o) := fun b u z hb => by
  have h1 := s b u z hb
  rw [upd_ne (ne_of_none h1 e)]
  exact h1
def rStrI : List V → Hp → VK → Prop := fun xs H Q => ∃ i, xs = [.int i] ∧ i.natAbs.log2 < 1920 ∧ Q (.str (toString i : String)) H
def tLeaf : TE := tLst (tCons (tCall spOne [] E0 (tCons (tVar 0) (tCons (tLst (tCons (tC (.str "a")) (tCons (tC (.str "n")) (tCons (tC (.str "a")) (tCons (tC (.str "n")) (tCons (tC (.str "0")) (tCons (tC (.str "1")) (tCons (tC (.str "2")) (tCons (tC (.str "-1")) (tCons (tC (.str "3")) (tCons (tC (.str "-2")) (tCons (tC (.str "7"))
  (tCons (tCB rStrI (tCons (tOp (rI0 fun i j => .int (i - j)) (tCall spThrow [] E0 (tCons (tVar 0) (tCons (tC (.int 90)) tNil))) (tC (.int 45))) tNil)) tNil))))))))))))) tNil))) tNil)
theorem leaf_run {wf : Addr} {deep : Int} {n : Nat} {H : Hp} {Q : VK} (hw : WeftAt H wf n) (hn : n + 2 ≤ 1000000)
    (q : ∀ l t H', LeafT t → H l = none → H' l = some (.lst (itemsV [t])) → SameW wf H H' → WeftAt H' wf (n + 2) → Q (.ref l) H') : tLeaf [some (.ref wf), some (.int deep)] H Q := by
  refine ⟨_, rfl, _, rfl, wf, 90, n, rfl, hw, by decide, by decide, by omega, fun r H1 r0 r1 sm1 w1 _ => ?_⟩
  refine ⟨_, _, rfl, rfl, _, rfl, Nat.lt_of_le_of_lt (Nat.log2_le_self _) (by omega), by show 12 ≤ sizeLine; decide, fun p hp => ?_⟩
  refine ⟨wf, p, _, n + 1, rfl, w1.upd hp, upd_same, w1.neN hp, by show 0 < 12; decide, by show 12 < 1000; decide, by omega, fun v H2 hm sm2 w2 => ?_⟩
  obtain ⟨t, rfl, ht⟩ := leaf_txt r0 r1 hm
  refine ⟨by show 1 ≤ sizeLine; decide, fun l hl => ?_⟩
  have sm3 : SameW wf H H2 := (sm1.upd hp).trans sm2
  exact q l t _ ht (sm3.free w2 hl) upd_same (sm3.upd hl) (w2.upd hl)
theorem ops_txt {v : V} (h : v ∈ [V.str "+", V.str "-", V.str "*", V.str "rem", V.str "rem"]) : ∃ o : Op, v = .str (Tk.op o).txt ∧ (o = .add ∨ o = .sub ∨ o = .mul ∨ o = .rem) := by
  simp only [List.mem_cons, List.not_mem_nil, or_false] at h
  rcases h with rfl | rfl | rfl | rfl | rfl
  · exact ⟨.add, rfl, .inl rfl⟩
  · exact ⟨.sub, rfl, .inr (.inl rfl)⟩
  · exact ⟨.mul, rfl, .inr (.inr (.inl rfl))⟩
  · exact ⟨.rem, rfl, .inr (.inr (.inr rfl))⟩
  · exact ⟨.rem, rfl, .inr (.inr (.inr rfl))⟩
theorem Dc_ge : ∀ d, 2 ≤ Dc d
  | 0 => Nat.le_refl _
  | d + 1 => by
    have := Dc_ge d
    show 2 ≤ 2 * Dc d + 2
    omega
theorem Lc_ge : ∀ d, 1 ≤ Lc d
  | 0 => Nat.le_refl _
  | d + 1 => by
    have := Lc_ge d
    show 1 ≤ 2 * Lc d + 1
    omega
theorem ok_count {f : Addr} {fd : FuncData} (F : Fun K "_law_count" "_law_count" sCount f fd) (T : Nm mg) (D1 : Df P w K mg base CX0 "_law_throw" 1 ["_law_weft_here", "_law_many"] spThrow) (D2 : Df P w K mg base CX0 "_law_one" 2 ["_law_weft_here", "_law_some"] spOne)
    (hm : mg "_law_count" = some (.ref f)) (hb : Binds K fd ["_law_weft_here", "_law_deep"] []) : ∀ d, d ≤ 2 → FnOk P w K mg base CX0 (3 + d) f fd ["_law_weft_here", "_law_deep"] (spCount d)
  | 0, _ => by
    refine F.ok scCount (fun vs H Q E h => ?_) (fun cdv A outer s H vs Q E hr h => ?_)
    · obtain ⟨wf, deep, n, rfl, _⟩ := h
      rfl
    · obtain ⟨wf, deep, n, rfl, hw, d0, d1, hn, q⟩ := h
      have hn' : n + 2 ≤ 1000000 := hn
      refine ⟨_, pss_cons (ps_if (PW.pt (pw_or (pt_cmpR op_eq (pv 1) pe_int (nomark _)) (pw_or1 (pt_cmpR op_eq (pcD D1 hr (by decide) (by rfl) (pa_cons (pv 0) (pa_cons pe_int pa_nil))) pe_int (nomark _)))))
          (pss_one (ps_ret (pe_lst (pa_cons (pcD D2 hr (by decide) (by rfl) (pa_cons (pv 0) (pa_cons (pe_lst (pa_cons pe_str (pa_cons pe_str (pa_cons pe_str (pa_cons pe_str (pa_cons pe_str (pa_cons pe_str (pa_cons pe_str (pa_cons pe_str (pa_cons pe_str (pa_cons pe_str (pa_cons pe_str
            (pa_cons (pe_callTy call_str_int (by rfl) T.str boot_str (pa_cons (pe_op op_sub (pcD D1 hr (by decide) (by rfl) (pa_cons (pv 0) (pa_cons pe_int pa_nil))) pe_int) pa_nil)) pa_nil))))))))))))) pa_nil))) pa_nil)))) pss_nil) pss_never, ?_⟩
      have e : deep = 0 := by omega
      refine ⟨_, rfl, rfl, true, bl_t (by rw [e]), iteT (iteT ?_)⟩
      exact leaf_run hw hn' fun l t H' ht h1 h2 h3 h4 => q l [t] H' (.leaf ht) (by show 1 ≤ 1; decide) h1 h2 h3 h4
  | d + 1, hd2 => by
    have IH := ok_count F T D1 D2 hm hb d (by omega)
    have D3 : Df P w K mg base CX0 "_law_count" (3 + d) ["_law_weft_here", "_law_deep"] (spCount d) := ⟨f, fd, IH, hm, F.kp, hb⟩
    have l7 : 2 * Lc d + 1 ≤ 7 := by
      have : d = 0 ∨ d = 1 := by omega
      rcases this with rfl | rfl <;> decide
    refine F.ok (k := 3 + d) scCount (fun vs H Q E h => ?_) (fun cdv A outer s H vs Q E hr h => ?_)
    · obtain ⟨wf, deep, n, rfl, _⟩ := h
      rfl
    · obtain ⟨wf, deep, n, rfl, hw, d0, d1, hn, q⟩ := h
      have hge := Dc_ge d
      have hn' : n + (2 * Dc d + 2) ≤ 1000000 := hn
      refine ⟨_, pss_cons (ps_if (PW.pt (pw_or (pt_cmpR op_eq (pv 1) pe_int (nomark _)) (pw_or1 (pt_cmpR op_eq (pcD D1 hr (by omega) (by rfl) (pa_cons (pv 0) (pa_cons pe_int pa_nil))) pe_int (nomark _)))))
          (pss_one (ps_ret (pe_lst (pa_cons (pcD D2 hr (by omega) (by rfl) (pa_cons (pv 0) (pa_cons (pe_lst (pa_cons pe_str (pa_cons pe_str (pa_cons pe_str (pa_cons pe_str (pa_cons pe_str (pa_cons pe_str (pa_cons pe_str (pa_cons pe_str (pa_cons pe_str (pa_cons pe_str (pa_cons pe_str
            (pa_cons (pe_callTy call_str_int (by rfl) T.str boot_str (pa_cons (pe_op op_sub (pcD D1 hr (by omega) (by rfl) (pa_cons (pv 0) (pa_cons pe_int pa_nil))) pe_int) pa_nil)) pa_nil))))))))))))) pa_nil))) pa_nil)))) pss_nil)
        (pss_one (ps_ret (pe_op op_cat (pe_op op_cat (pcD D3 hr (Nat.le_refl _) (by rfl) (pa_cons (pv 0) (pa_cons (pe_op op_sub (pv 1) pe_int) pa_nil))) (pcD D3 hr (Nat.le_refl _) (by rfl) (pa_cons (pv 0) (pa_cons (pe_op op_sub (pv 1) pe_int) pa_nil))))
          (pe_lst (pa_cons (pcD D2 hr (by omega) (by rfl) (pa_cons (pv 0) (pa_cons (pe_lst (pa_cons pe_str (pa_cons pe_str (pa_cons pe_str (pa_cons pe_str (pa_cons pe_str pa_nil)))))) pa_nil))) pa_nil))))), ?_⟩
      have leafQ : ∀ H1 n1, SameW wf H H1 → WeftAt H1 wf n1 → n1 + 2 ≤ n + (2 * Dc d + 2) → tLeaf [some (.ref wf), some (.int deep)] H1 Q := fun H1 n1 sm1 w1 h1 =>
        leaf_run w1 (by omega) fun l t H' ht e1 e2 sm2 w2 => q l [t] H' (.leaf ht) (Lc_ge _) (sm1.free w1 e1) e2 (sm1.trans sm2) (w2.mono h1)
      by_cases h0 : deep = 0
      · refine ⟨_, rfl, rfl, true, bl_t (by rw [h0]), iteT (iteT ?_)⟩
        exact leafQ H n (SameW.refl _ _) hw (by omega)
      · refine ⟨_, rfl, rfl, false, bl_f (fun e => h0 (V.int.inj e)), iteF ?_⟩
        refine ⟨_, rfl, wf, 3, n, rfl, hw, by decide, by decide, by omega, fun r H1 r0 r1 sm1 w1 _ => ⟨rfl, _, rfl, ?_⟩⟩
        refine iteC (fun z => ?_) (fun z => ?_)
        · exact leafQ H1 (n + 1) sm1 w1 (by omega)
        · refine ⟨_, rfl, _, rfl, _, _, rfl, rfl, wf, deep - 1, n + 1, rfl, w1, by omega, by omega, by omega, fun l1 t1 H2 c1 b1 f1 e1 sm2 w2 => ?_⟩
          refine ⟨_, rfl, _, rfl, _, _, rfl, rfl, wf, deep - 1, n + 1 + Dc d, rfl, w2, by omega, by omega, by omega, fun l2 t2 H3 c2 b2 f2 e2 sm3 w3 => ?_⟩
          have n1 := w2.ne e1
          have e1' := sm3 _ _ e1 n1
          have s7 : (7 : Nat) ≤ sizeLine := by decide
          refine ⟨l1, l2, _, _, rfl, rfl, e1', e2, by simp; omega, fun l3 f3 => ?_⟩
          refine ⟨_, rfl, by show 5 ≤ sizeLine; decide, fun p hp => ?_⟩
          have w3' : WeftAt (Dt_upd H3 l3 (itemsV t1 ++ itemsV t2)) wf (n + 1 + Dc d + Dc d) := w3.upd f3
          refine ⟨wf, p, _, n + 1 + Dc d + Dc d, rfl, w3'.upd hp, upd_same, w3'.neN hp, by show 0 < 5; decide, by show 5 < 1000; decide, by omega, fun v H4 hv sm4 w4 => ?_⟩
          obtain ⟨o, rfl, ho⟩ := ops_txt hv
          refine ⟨by show 1 ≤ sizeLine; decide, fun l4 f4 => ?_⟩
          have g3 : (upd (Dt_upd H3 l3 (itemsV t1 ++ itemsV t2)) p (.lst [.str "+", .str "-", .str "*", .str "rem", .str "rem"])) l3 = some (.lst (itemsV t1 ++ itemsV t2)) := by
            rw [upd_ne (ne_of_none upd_same hp)]
            exact upd_same
          have g4 := sm4 _ _ g3 (w3.neN f3)
          have smA := ((((sm1.trans sm2).trans sm3).upd f3).upd hp).trans sm4
          refine ⟨l3, l4, _, _, rfl, rfl, by rw [upd_ne (ne_of_none g4 f4)]; exact g4, upd_same, by simp; omega, fun l5 f5 => ?_⟩
          refine q l5 (t1 ++ t2 ++ [.op o]) _ (.bin c1 c2 ho) ?_ ((smA.upd f4).free (w4.upd f4) f5) ?_ ((smA.upd f4).upd f5) (((w4.upd f4).upd f5).mono ?_)
          · show (t1 ++ t2 ++ [Tk.op o]).length ≤ 2 * Lc d + 1
            simp
            omega
          · rw [upd_same, itemsV_app, itemsV_app]
            rfl
          · show n + 1 + Dc d + Dc d + 1 ≤ n + (2 * Dc d + 2)
            omega
end
end Dt

set_option Elab.async false
set_option linter.all false
set_option maxRecDepth 100000
set_option maxHeartbeats 2000000
namespace Dt
open PySem PySem.Spec PyProof.Rows L2 DtR
theorem deep_of {v : V} {xs : List V} (hx : xs = [V.int 1, V.int 0, V.int 2] ∨ xs = [V.int 0, V.int 1, V.int 2]) (h : v ∈ xs) : ∃ k : Int, v = .int k ∧ 0 ≤ k ∧ k ≤ 2 := by
  rcases hx with rfl | rfl <;> (simp only [List.mem_cons, List.not_mem_nil, or_false] at h; rcases h with rfl | rfl | rfl) <;> exact ⟨_, rfl, by decide, by decide⟩
theorem cmps_txt {v : V} (h : v ∈ [V.str "=", V.str "<"]) : ∃ o : Op, v = .str (Tk.op o).txt ∧ (o = .eq ∨ o = .lt) := by
  simp only [List.mem_cons, List.not_mem_nil, or_false] at h
  rcases h with rfl | rfl
  · exact ⟨.eq, rfl, .inl rfl⟩
  · exact ⟨.lt, rfl, .inr rfl⟩
theorem logs_txt {v : V} (h : v ∈ [V.str "and", V.str "or"]) : ∃ o : Op, v = .str (Tk.op o).txt ∧ (o = .and ∨ o = .or) := by
  simp only [List.mem_cons, List.not_mem_nil, or_false] at h
  rcases h with rfl | rfl
  · exact ⟨.and, rfl, .inl rfl⟩
  · exact ⟨.or, rfl, .inr rfl⟩
section
variable {P : Program} {w : World} {K : PySem.W.Frag} {mg : Str → Option Value} {base : Heap}
def tPick (a b c : Int) : TE := tCall spOne [] E0 (tCons (tVar 0) (tCons (tLst (tCons (tC (.int a)) (tCons (tC (.int b)) (tCons (tC (.int c)) tNil)))) tNil))
def tPickS (a b : Str) : TE := tCall spOne [] E0 (tCons (tVar 0) (tCons (tLst (tCons (tC (.str a)) (tCons (tC (.str b)) tNil))) tNil))
def tCmp : TE := tOp rCat (tOp rCat (tCall (spCount 2) [] E0 (tCons (tVar 0) (tCons (tPick 1 0 2) tNil))) (tCall (spCount 2) [] E0 (tCons (tVar 0) (tCons (tPick 0 1 2) tNil)))) (tLst (tCons (tPickS "=" "<") tNil))
theorem pick_run {a b c : Int} {wf : Addr} {v1 v2 : Option V} {n : Nat} {H : Hp} {Q : VK} (hx : [V.int a, V.int b, V.int c] = [V.int 1, V.int 0, V.int 2] ∨ [V.int a, V.int b, V.int c] = [V.int 0, V.int 1, V.int 2]) (hw : WeftAt H wf n) (hn : n + 1 ≤ 1000000)
    (q : ∀ k H', 0 ≤ k → k ≤ 2 → SameW wf H H' → WeftAt H' wf (n + 1) → Q (.int k) H') : tPick a b c [some (.ref wf), v1, v2] H Q := by
  refine ⟨_, rfl, by show 3 ≤ sizeLine; decide, fun p hp => ?_⟩
  refine ⟨wf, p, _, n, rfl, hw.upd hp, upd_same, hw.neN hp, by show 0 < 3; decide, by show 3 < 1000; decide, by omega, fun v H4 hv sm4 w4 => ?_⟩
  obtain ⟨k, rfl, k0, k1⟩ := deep_of hx hv
  exact q k H4 k0 k1 (((SameW.refl wf H).upd hp).trans sm4) w4
theorem pickS_run {a b : Str} {wf : Addr} {v1 v2 : Option V} {n : Nat} {H : Hp} {Q : VK} (hw : WeftAt H wf n) (hn : n + 1 ≤ 1000000)
    (q : ∀ v H', v ∈ [V.str a, V.str b] → SameW wf H H' → WeftAt H' wf (n + 1) → Q v H') : tPickS a b [some (.ref wf), v1, v2] H Q := by
  refine ⟨_, rfl, by show 2 ≤ sizeLine; decide, fun p hp => ?_⟩
  refine ⟨wf, p, _, n, rfl, hw.upd hp, upd_same, hw.neN hp, by show 0 < 2; decide, by show 2 < 1000; decide, by omega, fun v H4 hv sm4 w4 => ?_⟩
  exact q v H4 hv (((SameW.refl wf H).upd hp).trans sm4) w4
/-- two lists of items and one more item, joined -/
theorem join_run {wf l1 l2 : Addr} {t1 t2 : List Tk} {n : Nat} {H : Hp} {Q : VK} {a b : Str} {v1 v2 : Option V} (hw : WeftAt H wf n) (hn : n + 1 ≤ 1000000) (e1 : H l1 = some (.lst (itemsV t1))) (e2 : H l2 = some (.lst (itemsV t2))) (hz : t1.length + t2.length ≤ 10000)
    (ho : ∀ v, v ∈ [V.str a, V.str b] → ∃ o : Op, v = .str (Tk.op o).txt)
    (q : ∀ o l H', V.str (Tk.op o).txt ∈ [V.str a, V.str b] → H l = none → H' l = some (.lst (itemsV (t1 ++ t2 ++ [.op o]))) → SameW wf H H' → WeftAt H' wf (n + 1) → Q (.ref l) H') :
    rCat (.ref l1) (.ref l2) H fun x H1 => tLst (tCons (tPickS a b) tNil) [some (.ref wf), v1, v2] H1 fun y H2 => rCat x y H2 Q := by
  have s7 : (10001 : Nat) ≤ sizeLine := by decide
  refine ⟨l1, l2, _, _, rfl, rfl, e1, e2, by simp; omega, fun l3 f3 => ?_⟩
  refine pickS_run (hw.upd f3) hn fun v H4 hv sm4 w4 => ?_
  obtain ⟨o, rfl⟩ := ho v hv
  refine ⟨by show 1 ≤ sizeLine; decide, fun l4 f4 => ?_⟩
  have g4 := sm4 _ _ (upd_same (H := H) (a := l3) (o := .lst (itemsV t1 ++ itemsV t2))) (hw.neN f3)
  have smA := ((SameW.refl wf H).upd (o := .lst (itemsV t1 ++ itemsV t2)) f3).trans sm4
  refine ⟨l3, l4, _, _, rfl, rfl, by rw [upd_ne (ne_of_none g4 f4)]; exact g4, upd_same, by simp; omega, fun l5 f5 => ?_⟩
  refine q o l5 _ hv ((smA.upd f4).free (w4.upd f4) f5) ?_ ((smA.upd f4).upd f5) ((w4.upd f4).upd f5)
  rw [upd_same, itemsV_app, itemsV_app]
  rfl
theorem cmp_run {wf : Addr} {v1 v2 : Option V} {n : Nat} {H : Hp} {Q : VK} (hw : WeftAt H wf n) (hn : n + 31 ≤ 1000000)
    (q : ∀ d l ts H', TruthT d ts → ts.length ≤ 15 → H l = none → H' l = some (.lst (itemsV ts)) → SameW wf H H' → WeftAt H' wf (n + 31) → (∀ d', TruthT d' ts) → Q (.ref l) H') : tCmp [some (.ref wf), v1, v2] H Q := by
  refine ⟨_, rfl, ?_⟩
  refine pick_run (.inl rfl) hw (by omega) fun k H1 k0 k1 sm1 w1 => ?_
  refine ⟨wf, k, n + 1, rfl, w1, k0, k1, by show n + 1 + 14 ≤ 1000000; omega, fun l1 t1 H2 c1 b1 f1 e1 sm2 w2 => ?_⟩
  have b1 : t1.length ≤ 7 := b1
  have w2 : WeftAt H2 wf (n + 1 + 14) := w2
  refine ⟨_, rfl, ?_⟩
  refine pick_run (.inr rfl) w2 (by omega) fun k H3 k0 k1 sm3 w3 => ?_
  refine ⟨wf, k, n + 1 + 14 + 1, rfl, w3, k0, k1, by show n + 1 + 14 + 1 + 14 ≤ 1000000; omega, fun l2 t2 H4 c2 b2 f2 e2 sm4 w4 => ?_⟩
  have b2 : t2.length ≤ 7 := b2
  have w4 : WeftAt H4 wf (n + 1 + 14 + 1 + 14) := w4
  have nl1 := w2.ne e1
  have e1' := sm4 _ _ (sm3 _ _ e1 nl1) nl1
  have smA := ((sm1.trans sm2).trans sm3).trans sm4
  refine join_run w4 (by omega) e1' e2 (by omega) (fun v hv => by obtain ⟨o, e, _⟩ := cmps_txt hv; exact ⟨o, e⟩) fun o l H5 hv f5 e5 sm5 w5 => ?_
  obtain ⟨o', eo, ho⟩ := cmps_txt hv
  have eoo : o = o' := by
    have h := V.str.inj eo
    revert h
    cases o <;> cases o' <;> first | (intro _; rfl) | (intro h; exact absurd h (by decide +kernel))
  subst eoo
  refine q 0 l _ H5 (.cmp c1 c2 ho) (by simp; omega) (smA.free w4 f5) e5 (smA.trans sm5) w5 fun d' => .cmp c1 c2 ho
def spTruth (d : Nat) : Sp := fun vs H Q _ => ∃ (wf : Addr) (deep : Int) (n : Nat), vs = [.ref wf, .int deep] ∧ WeftAt H wf n ∧ 0 ≤ deep ∧ deep ≤ d ∧ n + Dt' d ≤ 1000000 ∧
  ∀ l ts H', TruthT d ts → ts.length ≤ Lt d → H l = none → H' l = some (.lst (itemsV ts)) → SameW wf H H' → WeftAt H' wf (n + Dt' d) → Q (.ref l) H'
theorem scTruth : FnScope ["_law_weft_here", "_law_deep", "_law_way"] ["_law_weft_here", "_law_deep"] (defScope sTruth) := ⟨rfl, rfl, rfl, by decide +kernel, rfl, by decide +kernel, by decide +kernel⟩
theorem Dt_ge : ∀ d, 32 ≤ Dt' d
  | 0 => Nat.le_refl _
  | d + 1 => by
    have := Dt_ge d
    show 32 ≤ 2 * Dt' d + 2
    omega
theorem Lt_ge : ∀ d, 15 ≤ Lt d
  | 0 => Nat.le_refl _
  | d + 1 => by
    have := Lt_ge d
    show 15 ≤ 2 * Lt d + 1
    omega
theorem ok_truth {f : Addr} {fd : FuncData} (F : Fun K "_law_truth" "_law_truth" sTruth f fd) (T : Nm mg) (D1 : Df P w K mg base CX0 "_law_throw" 1 ["_law_weft_here", "_law_many"] spThrow) (D2 : Df P w K mg base CX0 "_law_one" 2 ["_law_weft_here", "_law_some"] spOne)
    (DC : Df P w K mg base CX0 "_law_count" 5 ["_law_weft_here", "_law_deep"] (spCount 2)) (hm : mg "_law_truth" = some (.ref f)) (hb : Binds K fd ["_law_weft_here", "_law_deep"] []) : ∀ d, d ≤ 2 → FnOk P w K mg base CX0 (6 + d) f fd ["_law_weft_here", "_law_deep"] (spTruth d)
  | 0, _ => by
    refine F.ok scTruth (fun vs H Q E h => ?_) (fun cdv A outer s H vs Q E hr h => ?_)
    · obtain ⟨wf, deep, n, rfl, _⟩ := h
      rfl
    · obtain ⟨wf, deep, n, rfl, hw, d0, d1, hn, q⟩ := h
      have hn' : n + 32 ≤ 1000000 := hn
      refine ⟨_, pss_cons (ps_set (i := 2) scTruth.nd rfl (.inl rfl) (pcD D1 hr (by decide) (by rfl) (pa_cons (pv 0) (pa_cons pe_int pa_nil))))
        (pss_cons (ps_if (PW.pt (pw_and (pt_cmpR op_gt (pv 1) pe_int (nomark _)) (pw_and1 (pt_cmpR op_lt (pv 2) pe_int (nomark _))))) pss_never pss_nil)
        (pss_cons (ps_if (PW.pt (pw_and (pt_cmpR op_gt (pv 1) pe_int (nomark _)) (pw_and1 (pt_cmpR op_eq (pv 2) pe_int (nomark _))))) pss_never pss_nil)
        (pss_one (ps_ret (pe_op op_cat (pe_op op_cat (pcD DC hr (by decide) (by rfl) (pa_cons (pv 0) (pa_cons (pcD D2 hr (by decide) (by rfl) (pa_cons (pv 0) (pa_cons (pe_lst (pa_cons pe_int (pa_cons pe_int (pa_cons pe_int pa_nil)))) pa_nil))) pa_nil)))
            (pcD DC hr (by decide) (by rfl) (pa_cons (pv 0) (pa_cons (pcD D2 hr (by decide) (by rfl) (pa_cons (pv 0) (pa_cons (pe_lst (pa_cons pe_int (pa_cons pe_int (pa_cons pe_int pa_nil)))) pa_nil))) pa_nil))))
          (pe_lst (pa_cons (pcD D2 hr (by decide) (by rfl) (pa_cons (pv 0) (pa_cons (pe_lst (pa_cons pe_str (pa_cons pe_str pa_nil))) pa_nil))) pa_nil))))))), ?_⟩
      refine ⟨_, rfl, wf, 5, n, rfl, hw, by decide, by decide, by omega, fun r H1 r0 r1 sm1 w1 _ => ?_⟩
      refine ⟨_, rfl, _, _, rfl, rfl, false, bl_f (by show ¬ (0 : Int) < deep; omega), iteF (iteF ?_)⟩
      refine ⟨_, rfl, _, _, rfl, rfl, false, bl_f (by show ¬ (0 : Int) < deep; omega), iteF (iteF ?_)⟩
      exact cmp_run w1 (by omega) fun d l ts H' _ hl f1 e1 sm2 w2 ht => q l ts H' (ht 0) hl (sm1.free w1 f1) e1 (sm1.trans sm2) (w2.mono (by show n + 1 + 31 ≤ n + 32; omega))
  | d + 1, hd2 => by
    have IH := ok_truth F T D1 D2 DC hm hb d (by omega)
    have D3 : Df P w K mg base CX0 "_law_truth" (6 + d) ["_law_weft_here", "_law_deep"] (spTruth d) := ⟨f, fd, IH, hm, F.kp, hb⟩
    have l63 : 2 * Lt d + 1 ≤ 63 := by
      have : d = 0 ∨ d = 1 := by omega
      rcases this with rfl | rfl <;> decide
    refine F.ok (k := 6 + d) scTruth (fun vs H Q E h => ?_) (fun cdv A outer s H vs Q E hr h => ?_)
    · obtain ⟨wf, deep, n, rfl, _⟩ := h
      rfl
    · obtain ⟨wf, deep, n, rfl, hw, d0, d1, hn, q⟩ := h
      have hge := Dt_ge d
      have hgl := Lt_ge d
      have hn' : n + (2 * Dt' d + 2) ≤ 1000000 := hn
      refine ⟨_, pss_cons (ps_set (i := 2) scTruth.nd rfl (.inl rfl) (pcD D1 hr (by omega) (by rfl) (pa_cons (pv 0) (pa_cons pe_int pa_nil))))
        (pss_cons (ps_if (PW.pt (pw_and (pt_cmpR op_gt (pv 1) pe_int (nomark _)) (pw_and1 (pt_cmpR op_lt (pv 2) pe_int (nomark _)))))
          (pss_one (ps_ret (pe_op op_cat (pe_op op_cat (pcD D3 hr (Nat.le_refl _) (by rfl) (pa_cons (pv 0) (pa_cons (pe_op op_sub (pv 1) pe_int) pa_nil))) (pcD D3 hr (Nat.le_refl _) (by rfl) (pa_cons (pv 0) (pa_cons (pe_op op_sub (pv 1) pe_int) pa_nil))))
            (pe_lst (pa_cons (pcD D2 hr (by omega) (by rfl) (pa_cons (pv 0) (pa_cons (pe_lst (pa_cons pe_str (pa_cons pe_str pa_nil))) pa_nil))) pa_nil))))) pss_nil)
        (pss_cons (ps_if (PW.pt (pw_and (pt_cmpR op_gt (pv 1) pe_int (nomark _)) (pw_and1 (pt_cmpR op_eq (pv 2) pe_int (nomark _)))))
          (pss_one (ps_ret (pe_op op_cat (pcD D3 hr (Nat.le_refl _) (by rfl) (pa_cons (pv 0) (pa_cons (pe_op op_sub (pv 1) pe_int) pa_nil))) (pe_lst (pa_cons pe_str pa_nil))))) pss_nil)
        (pss_one (ps_ret (pe_op op_cat (pe_op op_cat (pcD DC hr (by omega) (by rfl) (pa_cons (pv 0) (pa_cons (pcD D2 hr (by omega) (by rfl) (pa_cons (pv 0) (pa_cons (pe_lst (pa_cons pe_int (pa_cons pe_int (pa_cons pe_int pa_nil)))) pa_nil))) pa_nil)))
            (pcD DC hr (by omega) (by rfl) (pa_cons (pv 0) (pa_cons (pcD D2 hr (by omega) (by rfl) (pa_cons (pv 0) (pa_cons (pe_lst (pa_cons pe_int (pa_cons pe_int (pa_cons pe_int pa_nil)))) pa_nil))) pa_nil))))
          (pe_lst (pa_cons (pcD D2 hr (by omega) (by rfl) (pa_cons (pv 0) (pa_cons (pe_lst (pa_cons pe_str (pa_cons pe_str pa_nil))) pa_nil))) pa_nil))))))), ?_⟩
      refine ⟨_, rfl, wf, 5, n, rfl, hw, by decide, by decide, by omega, fun r H1 r0 r1 sm1 w1 _ => ?_⟩
      have cmpQ : ∀ v2, tCmp [some (.ref wf), some (.int deep), v2] H1 Q := fun v2 => cmp_run w1 (by omega) fun d' l ts H' _ hl f1 e1 sm2 w2 ht => q l ts H' (ht _) (Nat.le_trans hl (Lt_ge _)) (sm1.free w1 f1) e1 (sm1.trans sm2) (w2.mono (by show n + 1 + 31 ≤ n + (2 * Dt' d + 2); omega))
      refine ⟨_, rfl, _, _, rfl, rfl, decide (0 < deep), rfl, ?_⟩
      refine iteC (fun z0 => ?_) (fun z0 => iteF ?_)
      · have hp : 0 < deep := of_decide_eq_true z0
        refine ⟨_, rfl, _, _, rfl, rfl, decide (r < 2), rfl, iteC (fun z1 => ?_) (fun z1 => ?_)⟩
        · refine ⟨_, rfl, _, rfl, _, _, rfl, rfl, wf, deep - 1, n + 1, rfl, w1, by omega, by omega, by omega, fun l1 t1 H2 c1 b1 f1 e1 sm2 w2 => ?_⟩
          refine ⟨_, rfl, _, rfl, _, _, rfl, rfl, wf, deep - 1, n + 1 + Dt' d, rfl, w2, by omega, by omega, by omega, fun l2 t2 H3 c2 b2 f2 e2 sm3 w3 => ?_⟩
          have e1' := sm3 _ _ e1 (w2.ne e1)
          have smA := (sm1.trans sm2).trans sm3
          refine join_run w3 (by omega) e1' e2 (by omega) (fun v hv => by obtain ⟨o, e, _⟩ := logs_txt hv; exact ⟨o, e⟩) fun o l H5 hv f5 e5 sm5 w5 => ?_
          obtain ⟨o', eo, ho⟩ := logs_txt hv
          have eoo : o = o' := by
            have h := V.str.inj eo
            revert h
            cases o <;> cases o' <;> first | (intro _; rfl) | (intro h; exact absurd h (by decide +kernel))
          subst eoo
          refine q l _ H5 (.bin c1 c2 ho) ?_ (smA.free w3 f5) e5 (smA.trans sm5) (w5.mono ?_)
          · show (t1 ++ t2 ++ [Tk.op o]).length ≤ 2 * Lt d + 1
            simp
            omega
          · show n + 1 + Dt' d + Dt' d + 1 ≤ n + (2 * Dt' d + 2)
            omega
        · refine ⟨_, rfl, _, _, rfl, rfl, true, bl_t hp, iteT ?_⟩
          refine ⟨_, rfl, rfl, _, rfl, iteC (fun z2 => ?_) (fun z2 => ?_)⟩
          · refine ⟨_, rfl, _, rfl, _, _, rfl, rfl, wf, deep - 1, n + 1, rfl, w1, by omega, by omega, by omega, fun l1 t1 H2 c1 b1 f1 e1 sm2 w2 => ?_⟩
            refine ⟨by show 1 ≤ sizeLine; decide, fun l2 f2 => ?_⟩
            have s9 : (100 : Nat) ≤ sizeLine := by decide
            have smA := (sm1.trans sm2).upd (o := .lst [V.str "not"]) f2
            refine ⟨l1, l2, _, _, rfl, rfl, by rw [upd_ne (ne_of_none e1 f2)]; exact e1, upd_same, by simp; omega, fun l3 f3 => ?_⟩
            refine q l3 (t1 ++ [.not]) _ (.neg c1.mono) ?_ (smA.free (w2.upd f2) f3) ?_ (smA.upd f3) (((w2.upd f2).upd f3).mono ?_)
            · show (t1 ++ [Tk.not]).length ≤ 2 * Lt d + 1
              simp
              omega
            · rw [upd_same, itemsV_app]
              rfl
            · show n + 1 + Dt' d ≤ n + (2 * Dt' d + 2)
              omega
          · exact cmpQ _
      · refine ⟨_, rfl, _, _, rfl, rfl, false, bl_f (of_decide_eq_false z0), iteF (iteF ?_)⟩
        exact cmpQ _
end
end Dt

set_option Elab.async false
set_option linter.all false
set_option maxRecDepth 100000
set_option maxHeartbeats 2000000
namespace Dt
open PySem PySem.Spec PyProof.Rows L2 DtR
section
variable {P : Program} {w : World} {K : PySem.W.Frag} {mg : Str → Option Value} {base : Heap}
def spCheck : Sp := fun vs H Q _ => ∃ (wf : Addr) (deep : Int) (n : Nat), vs = [.ref wf, .int deep] ∧ WeftAt H wf n ∧ 0 ≤ deep ∧ deep ≤ 2 ∧ n + 536 ≤ 1000000 ∧
  ∀ l ts H', TruthT 2 ts → ts.length ≤ 40 → H l = none → H' l = some (.lst (itemsV ts)) → SameW wf H H' → WeftAt H' wf (n + 536) → Q (.ref l) H'
theorem scCheck : FnScope ["_law_weft_here", "_law_deep", "_law_turn", "_law_found"] ["_law_weft_here", "_law_deep"] (defScope sCheck) := ⟨rfl, rfl, rfl, by decide +kernel, rfl, by decide +kernel, by decide +kernel⟩
theorem ok_check {f : Addr} {fd : FuncData} (F : Fun K "_law_check" "_law_check" sCheck f fd) (T : Nm mg) (D1 : Df P w K mg base CX0 "_law_truth" 8 ["_law_weft_here", "_law_deep"] (spTruth 2)) : FnOk P w K mg base CX0 9 f fd ["_law_weft_here", "_law_deep"] spCheck := by
  refine F.ok scCheck (fun vs H Q E h => ?_) (fun cdv A outer s H vs Q E hr h => ?_)
  · obtain ⟨wf, deep, n, rfl, _⟩ := h
    rfl
  · obtain ⟨wf, deep, n, rfl, hw, d0, d1, hn, q⟩ := h
    refine ⟨_, pss_cons (ps_for PassesOwn.never rfl (pi_range1 rfl T.range (pa_cons pe_int pa_nil)) (pg_name (i := 2) scCheck.nd rfl (.inl rfl))
        (pss_cons (ps_set (i := 3) scCheck.nd rfl (.inl rfl) (pcD D1 hr (by decide) (by rfl) (pa_cons (pv 0) (pa_cons (pv 1) pa_nil))))
        (pss_one (ps_if (pt_cmpR op_le (pe_callB call_len (by rfl) T.len PySem.boot_len (pa_cons (pv 3) pa_nil)) pe_int (nomark _)) (pss_one (ps_ret (pv 3))) pss_nil))))
      (pss_one (ps_ret (pe_lst (pa_cons pe_str (pa_cons pe_str (pa_cons pe_str pa_nil)))))), ?_⟩
    refine ⟨4, rfl, by decide, by decide, for_range (n := 4) (fun i σ H2 => ∃ v2 v3 : Option V, σ = [some (.ref wf), some (.int deep), v2, v3] ∧ SameW wf H H2 ∧ WeftAt H2 wf (n + 134 * i)) ⟨none, none, rfl, SameW.refl _ _, hw⟩ ?_ ?_⟩
    · rintro i σ H2 hi ⟨v2, v3, rfl, sm2, w2⟩
      refine ⟨_, rfl, _, rfl, wf, deep, _, rfl, w2, d0, d1, by show n + 134 * i + 134 ≤ 1000000; omega, fun l ts H3 ht hl f3 e3 sm3 w3 => ?_⟩
      refine ⟨_, rfl, _, ts.length, rfl, .inl ⟨_, SqL.of e3, by simp⟩, _, _, rfl, rfl, decide ((ts.length : Int) ≤ 40), rfl, iteC (fun z => ?_) (fun z => ?_)⟩
      · have hz : (ts.length : Int) ≤ 40 := of_decide_eq_true z
        exact ⟨_, rfl, q l ts H3 ht (by omega) (sm2.free w2 f3) e3 (sm2.trans sm3) (w3.mono (by show n + 134 * i + 134 ≤ n + 536; omega))⟩
      · exact ⟨_, _, rfl, sm2.trans sm3, w3.mono (by show n + 134 * i + 134 ≤ n + 134 * (i + 1); omega)⟩
    · rintro σ H2 ⟨v2, v3, rfl, sm2, w2⟩
      refine ⟨by show 3 ≤ sizeLine; decide, fun l hl => ?_⟩
      refine q l [.a, .n, .op .lt] _ (.cmp (s1 := [.a]) (s2 := [.n]) (o := .lt) (.leaf (.inl rfl)) (.leaf (.inr (.inl rfl))) (.inr rfl)) (by decide) (sm2.free w2 hl) ?_ (sm2.upd hl) ((w2.upd hl).mono (by omega))
      rw [upd_same]
      rfl
def spLong : Sp := fun vs H Q _ => ∃ (wf l : Addr) (ts : List Tk) (n : Nat), vs = [.ref wf, .ref l] ∧ WeftAt H wf n ∧ H l = some (.lst (itemsV ts)) ∧ TruthT 2 ts ∧ ts.length ≤ 40 ∧ n + 2 ≤ 1000000 ∧
  ∀ l' ts' H', TruthT 2 ts' → ts'.length ≤ 40 → H' l' = some (.lst (itemsV ts')) → SameW wf H H' → WeftAt H' wf (n + 2) → Q (.ref l') H'
theorem scLong : FnScope ["_law_weft_here", "_law_items"] ["_law_weft_here", "_law_items"] (defScope sLong) := ⟨rfl, rfl, rfl, by decide +kernel, rfl, by decide +kernel, by decide +kernel⟩
theorem flat_one (x : V) : ∀ k, (List.replicate k [x]).flatten = List.replicate k x
  | 0 => rfl
  | k + 1 => by
    rw [List.replicate_succ, List.replicate_succ, List.flatten_cons, flat_one x k]
    rfl
theorem ok_long {f : Addr} {fd : FuncData} (F : Fun K "_law_long" "_law_long" sLong f fd) (T : Nm mg) (D1 : Df P w K mg base CX0 "_law_throw" 1 ["_law_weft_here", "_law_many"] spThrow) : FnOk P w K mg base CX0 2 f fd ["_law_weft_here", "_law_items"] spLong := by
  refine F.ok scLong (fun vs H Q E h => ?_) (fun cdv A outer s H vs Q E hr h => ?_)
  · obtain ⟨wf, l, ts, n, rfl, _⟩ := h
    rfl
  · obtain ⟨wf, l, ts, n, rfl, hw, hl, ht, hlen, hn, q⟩ := h
    have bM : bootBuiltins ("max" : Str) = some (.builtin "max") := by decide +kernel
    refine ⟨_, pss_cons (ps_if (pt_cmpR op_gt (pcD D1 hr (by decide) (by rfl) (pa_cons (pv 0) (pa_cons pe_int pa_nil))) pe_int (nomark _)) (pss_one (ps_ret (pv 1))) pss_nil)
      (pss_one (ps_ret (pe_op op_cat (pv 1) (pe_op op_rep (pe_lst (pa_cons pe_str pa_nil)) (pe_callB (call_max2 rfl) (by rfl) T.max bM (pa_cons pe_int (pa_cons (pe_op op_sub (pe_op op_add pe_int (pcD D1 hr (by decide) (by rfl) (pa_cons (pv 0) (pa_cons pe_int pa_nil)))) (pe_callB call_len (by rfl) T.len PySem.boot_len (pa_cons (pv 1) pa_nil))) pa_nil))))))), ?_⟩
    have nl := hw.ne hl
    refine ⟨_, rfl, wf, 3, n, rfl, hw, by decide, by decide, by omega, fun r H1 r0 r1 sm1 w1 _ => ?_⟩
    have e1 := sm1 _ _ hl nl
    refine ⟨_, _, rfl, rfl, _, rfl, iteC (fun z => ?_) (fun z => ?_)⟩
    · exact ⟨_, rfl, q l ts H1 ht hlen e1 sm1 (w1.mono (by omega))⟩
    · refine ⟨_, rfl, by show 1 ≤ sizeLine; decide, fun p hp => ?_⟩
      have e2 : upd H1 p (.lst [V.str "not"]) l = some (.lst (itemsV ts)) := by rw [upd_ne (ne_of_none e1 hp)]; exact e1
      refine ⟨_, rfl, wf, 5, n + 1, rfl, w1.upd hp, by decide, by decide, by omega, fun r2 H2 r20 r21 sm2 w2 _ => ?_⟩
      have e3 := sm2 _ _ e2 nl
      have ep := sm2 _ _ (upd_same (H := H1) (a := p) (o := .lst [V.str "not"])) (w1.neN hp)
      refine ⟨_, _, rfl, rfl, _, rfl, _, ts.length, rfl, .inl ⟨_, SqL.of e3, by simp⟩, _, _, rfl, rfl, _, _, rfl, ?_⟩
      obtain ⟨k, ek, hk⟩ : ∃ k : Nat, (if 36 + r2 - (ts.length : Int) > 0 then 36 + r2 - (ts.length : Int) else 0) = (k : Int) ∧ ts.length + k ≤ 40 := by
        split
        · exact ⟨(36 + r2 - (ts.length : Int)).toNat, by omega, by omega⟩
        · exact ⟨0, rfl, by omega⟩
      have s9 : (100 : Nat) ≤ sizeLine := by decide
      refine ⟨p, (k : Int), _, rfl, congrArg V.int ek, ep, by omega, by omega, by simp; omega, fun l2 f2 => ?_⟩
      rw [Int.toNat_natCast, flat_one]
      refine ⟨l, l2, _, _, rfl, rfl, by rw [upd_ne (ne_of_none e3 f2)]; exact e3, upd_same, by simp; omega, fun l3 f3 => ?_⟩
      refine q l3 (ts ++ List.replicate k .not) _ (ht.nots k) (by simp; omega) ?_ ((((sm1.upd hp).trans sm2).upd f2).upd f3) ((w2.upd f2).upd f3)
      rw [upd_same, itemsV_app]
      congr 2
      simp [itemsV]
      exact .inr rfl
def spLRest : Sp := fun vs H Q _ => ∃ x y : Int, vs = [.int x, .int y] ∧ sm x ∧ sm y ∧ Q (.int (remI x y)) H
theorem scLRest : FnScope ["_law_one_here", "_law_other", "_law_size"] ["_law_one_here", "_law_other"] (defScope sRest) := ⟨rfl, rfl, rfl, by decide +kernel, rfl, by decide +kernel, by decide +kernel⟩
theorem ok_lrest {f : Addr} {fd : FuncData} (F : Fun K "_law_rest" "_law_rest" sRest f fd) (T : Nm mg) : FnOk P w K mg base CX0 1 f fd ["_law_one_here", "_law_other"] spLRest := by
  refine F.ok scLRest (fun vs H Q E h => ?_) (fun cdv A outer s H vs Q E hr h => ?_)
  · obtain ⟨x, y, rfl, _⟩ := h
    rfl
  · obtain ⟨x, y, rfl, hx, hy, k⟩ := h
    have bL : bootBuiltins ("abs" : Str) = some (.builtin "abs") := by decide +kernel
    have hy2 : y.natAbs ≤ 4100625 := hy
    refine ⟨_, pss_cons (ps_if (pt_cmpR op_eq (pv 1) pe_int (nomark _)) (pss_one (ps_ret (pv 0))) pss_nil)
      (pss_cons (ps_set (i := 2) scLRest.nd rfl (.inl rfl) (pe_callB call_abs (by rfl) T.abs bL (pa_cons (pv 1) pa_nil)))
      (pss_one (ps_ret (pe_op op_sub (pv 0) (pe_op op_mul (pv 2) (pe_op op_fdivN (pv 0) (pv 2))))))), ?_⟩
    refine ⟨_, rfl, rfl, decide (y = 0), by rw [dec_int]; congr 1, ?_⟩
    unfold remI at k
    by_cases h : y = 0
    · rw [decide_eq_true h]
      rw [if_pos h] at k
      exact iteT ⟨_, rfl, k⟩
    · rw [decide_eq_false h]
      rw [if_neg h] at k
      refine iteF ?_
      have hs : (if y < 0 then -y else y) ≠ 0 ∧ (if y < 0 then -y else y).natAbs < 1073741824 := by split <;> constructor <;> omega
      refine ⟨_, rfl, _, rfl, ?_⟩
      rw [Int.fmod_def] at k
      generalize (if y < 0 then -y else y) = z at hs k
      exact ⟨_, rfl, _, rfl, _, rfl, _, rfl, _, _, rfl, rfl, hs, _, _, rfl, rfl, .inl (by omega), _, _, rfl, rfl, k⟩
end
end Dt

set_option Elab.async false
set_option linter.all false
set_option maxRecDepth 100000
set_option maxHeartbeats 2000000
namespace Dt
open PySem PySem.Spec PyProof.Rows L2 DtR
def opTs : List V := [V.str "+", V.str "-", V.str "*", V.str "rem", V.str "=", V.str "<", V.str "and", V.str "or"]
theorem op_in (o : Op) : inV (.str (Tk.op o).txt) opTs = true := by cases o <;> decide +kernel
theorem num_notin {k : Int} (W : WOk k) : inV (.str (numT k)) opTs = false := by
  have b : ∀ z : Str, ¬ numT k = z → (z == numT k) = false := fun z h => by simpa using fun e => h e.symm
  show ((Str.ofString "+" == numT k) || ((Str.ofString "-" == numT k) || ((Str.ofString "*" == numT k) || ((Str.ofString "rem" == numT k) || ((Str.ofString "=" == numT k) || ((Str.ofString "<" == numT k) || ((Str.ofString "and" == numT k) || ((Str.ofString "or" == numT k) || false)))))))) = false
  rw [b _ W.nadd, b _ W.nsub, b _ W.nmul, b _ W.nrem, b _ W.neq, b _ W.nlt, b _ W.nand, b _ W.nor]
  rfl
theorem num_notan {k : Int} (W : WOk k) : inV (.str (numT k)) [V.str "a", V.str "n"] = false := by
  have b : ∀ z : Str, ¬ numT k = z → (z == numT k) = false := fun z h => by simpa using fun e => h e.symm
  show ((Str.ofString "a" == numT k) || ((Str.ofString "n" == numT k) || false)) = false
  rw [b _ W.na, b _ W.nn]
  rfl
theorem op_notan (o : Op) : inV (.str (Tk.op o).txt) [V.str "a", V.str "n"] = false := by cases o <;> decide +kernel
section
variable {P : Program} {w : World} {K : PySem.W.Frag} {mg : Str → Option Value} {base : Heap}
def spBehind : Sp := fun vs H Q _ => ∃ (p : Addr) (g a : Int) (ps ps' : List V) (t : Tk), vs = [.ref p, .str t.txt, .int g, .int a] ∧ H p = some (.lst ps) ∧ StepV g a ps t ps' ∧ ∀ p' H', Same H H' → H p' = none → H' p' = some (.lst ps') → Q (.ref p') H'
theorem scBehind : FnScope ["_law_pile", "_law_item", "_law_given", "_law_answer", "_law_x", "_law_y"] ["_law_pile", "_law_item", "_law_given", "_law_answer"] (defScope sBehind) := ⟨rfl, rfl, rfl, by decide +kernel, rfl, by decide +kernel, by decide +kernel⟩
theorem catQ {H0 H : Hp} {p : Addr} {Q : VK} {ps' q : List V} {z : V} (q0 : ∀ p' H', Same H0 H' → H0 p' = none → H' p' = some (.lst ps') → Q (.ref p') H') (sm : Same H0 H) (hp : H p = some (.lst q)) (hq : q ++ [z] = ps') (hl : ps'.length ≤ 20) :
    [z].length ≤ sizeLine ∧ ∀ b, H b = none → rCat (.ref p) (.ref b) (upd H b (.lst [z])) Q := by
  refine ⟨by show 1 ≤ sizeLine; decide, fun b hb => ?_⟩
  have s9 : (100 : Nat) ≤ sizeLine := by decide
  have hl2 : q.length + 1 ≤ 20 := by rw [← hq] at hl; simpa using hl
  refine ⟨p, b, _, _, rfl, rfl, by rw [upd_ne (ne_of_none hp hb)]; exact hp, upd_same, by simp; omega, fun l hl3 => ?_⟩
  have smb : Same H0 (upd H b (.lst [z])) := fun c o e => by rw [upd_ne (ne_of_none (sm _ _ e) hb)]; exact sm _ _ e
  refine q0 l _ (fun c o e => ?_) (smb.free hl3) (by rw [upd_same, hq])
  rw [upd_ne (ne_of_none (smb _ _ e) hl3)]
  exact smb _ _ e
theorem ok_behind {f : Addr} {fd : FuncData} (F : Fun K "_law_behind" "_law_behind" sBehind f fd) (T : Nm mg) (D1 : Df P w K mg base CX0 "_law_rest" 1 ["_law_one_here", "_law_other"] spLRest) : FnOk P w K mg base CX0 2 f fd ["_law_pile", "_law_item", "_law_given", "_law_answer"] spBehind := by
  refine F.ok scBehind (fun vs H Q E h => ?_) (fun cdv A outer s H vs Q E hr h => ?_)
  · obtain ⟨p, g, a, ps, ps', t, rfl, _⟩ := h
    rfl
  · obtain ⟨p, g, a, ps, ps', t, rfl, hp, st, q⟩ := h
    refine ⟨_, pss_cons (ps_if (pt_cmpR op_in_seq (pv 1) (pe_tup (pa_cons pe_str (pa_cons pe_str pa_nil))) (by rfl)) (pss_one (ps_ret (pe_op op_cat (pv 0) (pe_lst (pa_cons (pe_ifExp (pt_cmpR op_eq (pv 1) pe_str (nomark _)) (pv 3) (pv 2)) pa_nil))))) pss_nil)
      (pss_cons (ps_if (pt_cmpR op_eq (pv 1) pe_str (nomark _)) (pss_one (ps_ret (pe_op op_cat (pe_slice sl_list (pv 0) po_none (po_some (pe_un un_neg pe_int))) (pe_lst (pa_cons (pe_cmpR op_is_bl (pe_ix ix_list (pv 0) (pe_un un_neg pe_int) (fun _ _ => rfl)) pe_bl (nomark _)) pa_nil))))) pss_nil)
      (pss_cons (ps_if (pt_cmpR op_notIn_seq (pv 1) (pe_tup (pa_cons pe_str (pa_cons pe_str (pa_cons pe_str (pa_cons pe_str (pa_cons pe_str (pa_cons pe_str (pa_cons pe_str (pa_cons pe_str pa_nil))))))))) (by rfl)) (pss_one (ps_ret (pe_op op_cat (pv 0) (pe_lst (pa_cons (pe_callTy call_int_str (by rfl) T.int boot_int (pa_cons (pv 1) pa_nil)) pa_nil))))) pss_nil)
      (pss_cons (ps_par (i := 4) (j := 5) (by rfl) scBehind.nd rfl rfl (by decide) rfl rfl (pa_cons (pe_ix ix_list (pv 0) (pe_un un_neg pe_int) (fun _ _ => rfl)) (pa_cons (pe_ix ix_list (pv 0) (pe_un un_neg pe_int) (fun _ _ => rfl)) pa_nil)) (by rfl))
      (pss_cons (ps_if (pt_cmpR op_in_seq (pv 1) (pe_tup (pa_cons pe_str (pa_cons pe_str pa_nil))) (by rfl)) (pss_one (ps_ret (pe_op op_cat (pe_slice sl_list (pv 0) po_none (po_some (pe_un un_neg pe_int)))
          (pe_lst (pa_cons (pe_cmpR op_gt (pe_op op_add_bb (pe_cmpR op_is_bl (pv 4) pe_bl (nomark _)) (pe_cmpR op_is_bl (pv 5) pe_bl (nomark _))) (pe_ifExp (pt_cmpR op_eq (pv 1) pe_str (nomark _)) pe_int pe_int) (nomark _)) pa_nil))))) pss_nil)
      (pss_cons (ps_if (pt_cmpR op_in_seq (pv 1) (pe_tup (pa_cons pe_str (pa_cons pe_str pa_nil))) (by rfl)) (pss_one (ps_ret (pe_op op_cat (pe_slice sl_list (pv 0) po_none (po_some (pe_un un_neg pe_int)))
          (pe_lst (pa_cons (pe_ifExp (pt_cmpR op_eq (pv 1) pe_str (nomark _)) (pe_cmpR op_eq (pv 4) (pv 5) (nomark _)) (pe_cmpR op_gt (pe_op op_sub (pv 5) (pv 4)) pe_int (nomark _))) pa_nil))))) pss_nil)
      (pss_one (ps_ret (pe_op op_cat (pe_slice sl_list (pv 0) po_none (po_some (pe_un un_neg pe_int)))
          (pe_lst (pa_cons (pe_ifExp (pt_cmpR op_eq (pv 1) pe_str (nomark _)) (pe_op op_add (pv 4) (pv 5)) (pe_ifExp (pt_cmpR op_eq (pv 1) pe_str (nomark _)) (pe_op op_sub (pv 4) (pv 5)) (pe_ifExp (pt_cmpR op_eq (pv 1) pe_str (nomark _)) (pe_op op_mul (pv 4) (pv 5)) (pcD D1 hr (by decide) (by rfl) (pa_cons (pv 4) (pa_cons (pv 5) pa_nil)))))) pa_nil)))))))))), ?_⟩
    have eq_t : ∀ z : Str, t.txt = z → V.bl (decide (V.str t.txt = V.str z)) = V.bl true := fun z e => bl_t (congrArg V.str e)
    have eq_f : ∀ z : Str, ¬ t.txt = z → V.bl (decide (V.str t.txt = V.str z)) = V.bl false := fun z e => bl_f (fun h => e (V.str.inj h))
    have hl' := st.len.2.1
    have s9 : (100 : Nat) ≤ sizeLine := by decide
    -- item in ('a', 'n')
    refine ⟨_, rfl, by show 2 ≤ sizeLine; decide, fun t1 ht1 => ⟨t1, _, rfl, .inr (SqT.of upd_same), rfl, rfl, ?_⟩⟩
    have sm1 : Same H (upd H t1 (.tup [V.str "a", V.str "n"])) := fun b o e => by rw [upd_ne (ne_of_none e ht1)]; exact e
    show ∃ k, V.bl (inV (.str t.txt) [V.str "a", V.str "n"]) = .bl k ∧ (if k = true then tRet _ _ _ (upd H t1 (.tup [V.str "a", V.str "n"])) else tSeq _ _ _ _ (upd H t1 (.tup [V.str "a", V.str "n"])))
    generalize upd H t1 (.tup [V.str "a", V.str "n"]) = H1 at sm1
    have hp1 := sm1 _ _ hp
    rcases st.four with ⟨o, r, x, y, z, rfl, rfl, rfl, ho, hl⟩ | ⟨r, x, rfl, rfl, rfl, hl⟩ | ⟨hl, ht⟩
    · refine ⟨false, by rw [op_notan], iteF ?_⟩
      refine ⟨_, rfl, rfl, false, eq_f _ (by cases o <;> decide +kernel), iteF ?_⟩
      refine ⟨_, rfl, by show 8 ≤ sizeLine; decide, fun t2 ht2 => ⟨t2, opTs, rfl, .inr (SqT.of upd_same), rfl, rfl, ?_⟩⟩
      have sm2 : Same H (upd H1 t2 (.tup opTs)) := fun b u e => by rw [upd_ne (ne_of_none (sm1 _ _ e) ht2)]; exact sm1 _ _ e
      refine ⟨false, (by show V.bl (!inV (.str (Tk.op o).txt) opTs) = _; rw [op_in]; rfl), iteF ?_⟩
      have hp2 := sm2 _ _ hp
      refine ⟨_, rfl, _, rfl, p, _, _, x, rfl, rfl, SqL.of hp2, at_m2 _ _ _, _, rfl, _, rfl, p, _, _, y, rfl, rfl, SqL.of hp2, at_m1' _ _ _, _, _, rfl, ?_⟩
      have tupS : ∀ (H3 : Hp) (xs : List V), Same H H3 → ∀ t3, H3 t3 = none → Same H (upd H3 t3 (.tup xs)) := fun H3 xs s3 t3 h3 b u e => by rw [upd_ne (ne_of_none (s3 _ _ e) h3)]; exact s3 _ _ e
      have hk2 : cutV (r ++ [x, y]) none (some (-2)) = r := cut_back r [x, y] (k := 2) rfl (by decide)
      have sl2 : ∀ (H3 : Hp), Same H H3 → ∀ (R : VK), (∀ p4 H4, Same H H4 → H4 p4 = some (.lst r) → R (.ref p4) H4) → tSl (rSlL K) (tVar 0) tNoPart (tPart (tUn (rU fun i => .int (-i)) (tC (.int 2)))) [some (.ref p), some (.str (Tk.op o).txt), some (.int g), some (.int a), some x, some y] H3 R := fun H3 sm3 R hR => by
        refine ⟨_, rfl, _, rfl, _, rfl, p, _, rfl, SqL.of (sm3 _ _ hp), fun p4 hp4 => ?_⟩
        refine hR p4 _ (fun b u e => by rw [upd_ne (ne_of_none (sm3 _ _ e) hp4)]; exact sm3 _ _ e) ?_
        rw [upd_same]
        exact congrArg (fun l => some (HO.lst l)) hk2
      cases ho with
      | @and x y =>
        refine ⟨_, rfl, by show 2 ≤ sizeLine; decide, fun t3 ht3 => ⟨t3, _, rfl, .inr (SqT.of upd_same), rfl, rfl, true, by decide +kernel, iteT ?_⟩⟩
        refine sl2 _ (tupS _ _ sm2 _ ht3) _ fun p4 H4 s4 e4 => ?_
        refine ⟨_, rfl, _, _, rfl, rfl, _, rfl, _, _, rfl, rfl, _, _, rfl, rfl, _, rfl, rfl, true, by decide +kernel, iteT ⟨_, _, rfl, rfl, ?_⟩⟩
        exact catQ q s4 e4 (by cases x <;> cases y <;> rfl) hl'
      | @or x y =>
        refine ⟨_, rfl, by show 2 ≤ sizeLine; decide, fun t3 ht3 => ⟨t3, _, rfl, .inr (SqT.of upd_same), rfl, rfl, true, by decide +kernel, iteT ?_⟩⟩
        refine sl2 _ (tupS _ _ sm2 _ ht3) _ fun p4 H4 s4 e4 => ?_
        refine ⟨_, rfl, _, _, rfl, rfl, _, rfl, _, _, rfl, rfl, _, _, rfl, rfl, _, rfl, rfl, false, by decide +kernel, iteF ⟨_, _, rfl, rfl, ?_⟩⟩
        exact catQ q s4 e4 (by cases x <;> cases y <;> rfl) hl'
      | @eq x y h1 h2 =>
        refine ⟨_, rfl, by show 2 ≤ sizeLine; decide, fun t3 ht3 => ⟨t3, _, rfl, .inr (SqT.of upd_same), rfl, rfl, false, by decide +kernel, iteF ?_⟩⟩
        refine ⟨_, rfl, by show 2 ≤ sizeLine; decide, fun t4 ht4 => ⟨t4, _, rfl, .inr (SqT.of upd_same), rfl, rfl, true, by decide +kernel, iteT ?_⟩⟩
        refine sl2 _ (tupS _ _ (tupS _ _ sm2 _ ht3) _ ht4) _ fun p4 H4 s4 e4 => ?_
        refine ⟨_, rfl, rfl, true, by decide +kernel, iteT ⟨_, rfl, _, rfl, rfl, ?_⟩⟩
        refine catQ q s4 e4 ?_ hl'
        have e : decide (V.int x = V.int y) = decide (x = y) := by rw [dec_int, Bool.eq_iff_iff]; simp
        exact congrArg (fun b => r ++ [V.bl b]) e
      | @lt x y h1 h2 =>
        refine ⟨_, rfl, by show 2 ≤ sizeLine; decide, fun t3 ht3 => ⟨t3, _, rfl, .inr (SqT.of upd_same), rfl, rfl, false, by decide +kernel, iteF ?_⟩⟩
        refine ⟨_, rfl, by show 2 ≤ sizeLine; decide, fun t4 ht4 => ⟨t4, _, rfl, .inr (SqT.of upd_same), rfl, rfl, true, by decide +kernel, iteT ?_⟩⟩
        refine sl2 _ (tupS _ _ (tupS _ _ sm2 _ ht3) _ ht4) _ fun p4 H4 s4 e4 => ?_
        refine ⟨_, rfl, rfl, false, by decide +kernel, iteF ⟨_, rfl, _, rfl, _, _, rfl, rfl, _, _, rfl, rfl, ?_⟩⟩
        refine catQ q s4 e4 ?_ hl'
        have e : decide ((0 : Int) < y - x) = decide (x < y) := by rw [Bool.eq_iff_iff]; simp
        exact congrArg (fun b => r ++ [V.bl b]) e
      | @add x y h1 h2 =>
        refine ⟨_, rfl, by show 2 ≤ sizeLine; decide, fun t3 ht3 => ⟨t3, _, rfl, .inr (SqT.of upd_same), rfl, rfl, false, by decide +kernel, iteF ?_⟩⟩
        refine ⟨_, rfl, by show 2 ≤ sizeLine; decide, fun t4 ht4 => ⟨t4, _, rfl, .inr (SqT.of upd_same), rfl, rfl, false, by decide +kernel, iteF ?_⟩⟩
        refine sl2 _ (tupS _ _ (tupS _ _ sm2 _ ht3) _ ht4) _ fun p4 H4 s4 e4 => ?_
        refine ⟨_, rfl, rfl, true, by decide +kernel, iteT ⟨_, rfl, _, rfl, _, _, rfl, rfl, ?_⟩⟩
        exact catQ q s4 e4 rfl hl'
      | @sub x y h1 h2 =>
        refine ⟨_, rfl, by show 2 ≤ sizeLine; decide, fun t3 ht3 => ⟨t3, _, rfl, .inr (SqT.of upd_same), rfl, rfl, false, by decide +kernel, iteF ?_⟩⟩
        refine ⟨_, rfl, by show 2 ≤ sizeLine; decide, fun t4 ht4 => ⟨t4, _, rfl, .inr (SqT.of upd_same), rfl, rfl, false, by decide +kernel, iteF ?_⟩⟩
        refine sl2 _ (tupS _ _ (tupS _ _ sm2 _ ht3) _ ht4) _ fun p4 H4 s4 e4 => ?_
        refine ⟨_, rfl, rfl, false, by decide +kernel, iteF ⟨_, rfl, rfl, true, by decide +kernel, iteT ⟨_, rfl, _, rfl, _, _, rfl, rfl, ?_⟩⟩⟩
        exact catQ q s4 e4 rfl hl'
      | @mul x y h1 h2 =>
        refine ⟨_, rfl, by show 2 ≤ sizeLine; decide, fun t3 ht3 => ⟨t3, _, rfl, .inr (SqT.of upd_same), rfl, rfl, false, by decide +kernel, iteF ?_⟩⟩
        refine ⟨_, rfl, by show 2 ≤ sizeLine; decide, fun t4 ht4 => ⟨t4, _, rfl, .inr (SqT.of upd_same), rfl, rfl, false, by decide +kernel, iteF ?_⟩⟩
        refine sl2 _ (tupS _ _ (tupS _ _ sm2 _ ht3) _ ht4) _ fun p4 H4 s4 e4 => ?_
        refine ⟨_, rfl, rfl, false, by decide +kernel, iteF ⟨_, rfl, rfl, false, by decide +kernel, iteF ⟨_, rfl, rfl, true, by decide +kernel, iteT ⟨_, rfl, _, rfl, _, _, rfl, rfl, .inl (sm64 h1), ?_⟩⟩⟩⟩
        exact catQ q s4 e4 rfl hl'
      | @rem x y h1 h2 =>
        refine ⟨_, rfl, by show 2 ≤ sizeLine; decide, fun t3 ht3 => ⟨t3, _, rfl, .inr (SqT.of upd_same), rfl, rfl, false, by decide +kernel, iteF ?_⟩⟩
        refine ⟨_, rfl, by show 2 ≤ sizeLine; decide, fun t4 ht4 => ⟨t4, _, rfl, .inr (SqT.of upd_same), rfl, rfl, false, by decide +kernel, iteF ?_⟩⟩
        refine sl2 _ (tupS _ _ (tupS _ _ sm2 _ ht3) _ ht4) _ fun p4 H4 s4 e4 => ?_
        refine ⟨_, rfl, rfl, false, by decide +kernel, iteF ⟨_, rfl, rfl, false, by decide +kernel, iteF ⟨_, rfl, rfl, false, by decide +kernel, iteF ⟨_, rfl, _, rfl, x, y, rfl, h1, h2, ?_⟩⟩⟩⟩
        exact catQ q s4 e4 rfl hl'
    · refine ⟨false, by decide +kernel, iteF ?_⟩
      refine ⟨_, rfl, rfl, true, eq_t _ rfl, iteT ?_⟩
      have hk2 : cutV (r ++ [V.bl x]) none (some (-1)) = r := cut_back r [V.bl x] (k := 1) rfl (by decide)
      refine ⟨_, rfl, _, rfl, _, rfl, p, _, rfl, SqL.of hp1, fun p4 hp4 => ?_⟩
      have e4 : upd H1 p4 (.lst (cutV (r ++ [V.bl x]) none (some (-1)))) p4 = some (.lst r) := by rw [upd_same, hk2]
      have s4 : Same H (upd H1 p4 (.lst (cutV (r ++ [V.bl x]) none (some (-1))))) := fun b u e => by rw [upd_ne (ne_of_none (sm1 _ _ e) hp4)]; exact sm1 _ _ e
      refine ⟨_, rfl, _, rfl, p, _, _, V.bl x, rfl, rfl, SqL.of (s4 _ _ hp), at_m1 _ _, _, _, rfl, rfl, ?_⟩
      exact catQ q s4 e4 (by cases x <;> rfl) hl'
    · rcases ht with ⟨rfl, rfl⟩ | ⟨rfl, rfl⟩ | ⟨k, rfl, rfl, hk1, hk2⟩
      · refine ⟨true, by decide +kernel, iteT ?_⟩
        refine ⟨_, rfl, _, rfl, rfl, true, eq_t _ rfl, iteT ⟨_, rfl, ?_⟩⟩
        exact catQ q sm1 hp1 rfl hl'
      · refine ⟨true, by decide +kernel, iteT ?_⟩
        refine ⟨_, rfl, _, rfl, rfl, false, eq_f _ (by decide +kernel), iteF ⟨_, rfl, ?_⟩⟩
        exact catQ q sm1 hp1 rfl hl'
      · have W := wOk_of hk1 hk2
        refine ⟨false, by show V.bl (inV (.str (numT k)) _) = _; rw [num_notan W], iteF ?_⟩
        refine ⟨_, rfl, rfl, false, eq_f _ W.nnot, iteF ?_⟩
        refine ⟨_, rfl, by show 8 ≤ sizeLine; decide, fun t2 ht2 => ⟨t2, opTs, rfl, .inr (SqT.of upd_same), rfl, rfl, ?_⟩⟩
        have sm2 : Same H (upd H1 t2 (.tup opTs)) := fun b u e => by rw [upd_ne (ne_of_none (sm1 _ _ e) ht2)]; exact sm1 _ _ e
        refine ⟨true, (by show V.bl (!inV (.str (numT k)) opTs) = _; rw [num_notin W]; rfl), iteT ?_⟩
        refine ⟨_, rfl, _, rfl, _, _, rfl, W.val, Nat.le_trans W.len (by decide), ?_⟩
        exact catQ q sm2 (sm2 _ _ hp) rfl hl'
def spLPiles : Sp := fun vs H Q _ => ∃ (l : Addr) (g a : Int) (ts : List Tk) (r : Bool), vs = [.ref l, .int g, .int a] ∧ H l = some (.lst (itemsV ts)) ∧ Run (StepV g a) [] ts [.bl r] ∧ ts ≠ [] ∧ ts.length ≤ 40 ∧
  ∀ p xs pl H', Same H H' → H' p = some (.tup (xs ++ [.ref pl])) → H' pl = some (.tup [.bl r]) → Q (.ref p) H'
theorem scLPiles : FnScope ["_law_items", "_law_given", "_law_answer", "_law_pile", "_law_found", "_law_item"] ["_law_items", "_law_given", "_law_answer"] (defScope sPiles) := ⟨rfl, rfl, rfl, by decide +kernel, rfl, by decide +kernel, by decide +kernel⟩
theorem ok_lpiles {f : Addr} {fd : FuncData} (F : Fun K "_law_piles" "_law_piles" sPiles f fd) (T : Nm mg) (D1 : Df P w K mg base CX0 "_law_behind" 2 ["_law_pile", "_law_item", "_law_given", "_law_answer"] spBehind) : FnOk P w K mg base CX0 3 f fd ["_law_items", "_law_given", "_law_answer"] spLPiles := by
  refine F.ok scLPiles (fun vs H Q E h => ?_) (fun cdv A outer s H vs Q E hr h => ?_)
  · obtain ⟨l, g, a, ts, r, rfl, _⟩ := h
    rfl
  · obtain ⟨l, g, a, ts, r, rfl, hl, hrun, hne, hlen, q⟩ := h
    refine ⟨_, pss_cons (ps_par (i := 3) (j := 4) (by rfl) scLPiles.nd rfl rfl (by decide) rfl rfl (pa_cons (pe_lst pa_nil) (pa_cons (pe_lst pa_nil) pa_nil)) (by rfl))
      (pss_cons (ps_for PassesOwn.never rfl (pi_list (pv 0)) (pg_name (i := 5) scLPiles.nd rfl (.inl rfl))
        (pss_cons (ps_set (i := 3) scLPiles.nd rfl (.inl rfl) (pcD D1 hr (by decide) (by rfl) (pa_cons (pv 3) (pa_cons (pv 5) (pa_cons (pv 1) (pa_cons (pv 2) pa_nil))))))
        (pss_one (ps_expr (pe_bm PySem.F.plainAttrs_list PySem.F.slot_list_append PySem.F.type_list_append mt_append (pv 4) (pa_cons (pe_callTy call_tuple_of (by rfl) T.tuple boot_tuple (pa_cons (pv 3) pa_nil)) pa_nil))))))
      (pss_one (ps_ret (pe_callTy call_tuple_of (by rfl) T.tuple boot_tuple (pa_cons (pv 4) pa_nil))))), ?_⟩
    refine ⟨by decide, fun p0 hp0 => ⟨by decide, fun fl hfl => ⟨_, _, rfl, ?_⟩⟩⟩
    have sm0 : Same H (upd (upd H p0 (.lst [])) fl (.lst [])) := fun b o e => by
      have e1 : upd H p0 (.lst []) b = some o := by rw [upd_ne (ne_of_none e hp0)]; exact e
      rw [upd_ne (ne_of_none e1 hfl)]
      exact e1
    have npf : p0 ≠ fl := ne_of_none upd_same hfl
    have hfn : H fl = none := by
      rw [upd_ne npf.symm] at hfl
      exact hfl
    refine ⟨_, rfl, l, rfl, ⟨_, SqL.of (sm0 _ _ hl)⟩, for_list (K := K) (a := l) (xs := itemsV ts) (fun i σ H2 => ∃ (ps : List V) (pp : Addr) (xs : List V) (v : Option V), σ = [some (.ref l), some (.int g), some (.int a), some (.ref pp), some (.ref fl), v] ∧ Same H H2 ∧ pp ≠ fl ∧
        H2 pp = some (.lst ps) ∧ Run (StepV g a) ps (ts.drop i) [.bl r] ∧ H2 fl = some (.lst xs) ∧ xs.length = i ∧ (0 < i → ∃ ys pl, xs = ys ++ [.ref pl] ∧ H2 pl = some (.tup ps))) ⟨[], p0, [], none, rfl, sm0, npf, by rw [upd_ne npf, upd_same], hrun, upd_same, rfl, fun h => absurd h (Nat.lt_irrefl 0)⟩ (fun i σ H2 _ ⟨_, _, _, _, _, s2, _⟩ => SqL.of (s2 _ _ hl)) ?_ ?_⟩
    · rintro i y σ H2 hi ⟨ps, pp, xs, v, rfl, s2, npp, hpp, run2, hf2, hxl, _⟩
      have hil : i < (itemsV ts).length := (List.getElem?_eq_some_iff.mp hi).1
      have hil2 : i < ts.length := by simpa using hil
      have ey : y = V.str ts[i].txt := by
        rw [List.getElem?_eq_getElem hil] at hi
        have := Option.some.inj hi
        rw [← this]
        simp
      subst ey
      have et : ts.drop i = ts[i] :: ts.drop (i + 1) := List.drop_eq_getElem_cons hil2
      rw [et] at run2
      cases run2 with
      | @cons _ ps' _ _ _ st run3 =>
      have l40 : (40 : Nat) < sizeLine := by decide
      refine ⟨_, rfl, _, rfl, _, rfl, _, rfl, pp, g, a, ps, ps', ts[i], rfl, hpp, st, fun p' H3 sm3 np' hp' => ?_⟩
      have hf3 := sm3 _ _ hf2
      have npf' : p' ≠ fl := (ne_of_none hf2 np').symm
      refine ⟨_, rfl, .inl ⟨rfl, _, SqL.of hf3⟩, _, rfl, p', ps', rfl, .inl ⟨SqL.of hp', fun tp htp => ?_⟩⟩
      have hf4 : upd H3 tp (.tup ps') fl = some (.lst xs) := by rw [upd_ne (ne_of_none hf3 htp)]; exact hf3
      have ntf : tp ≠ fl := (ne_of_none hf3 htp).symm
      refine ⟨fl, xs, _, rfl, rfl, hf4, by omega, ?_⟩
      refine ⟨ps', p', xs ++ [.ref tp], _, rfl, fun b o e => ?_, npf', by rw [upd_ne npf', upd_ne (ne_of_none hp' htp)]; exact hp', run3, upd_same, by simp [hxl], fun _ => ⟨xs, tp, rfl, by rw [upd_ne ntf, upd_same]⟩⟩
      rw [upd_ne (ne_of_none e hfn), upd_ne (ne_of_none (sm3 _ _ (s2 _ _ e)) htp)]
      exact sm3 _ _ (s2 _ _ e)
    · rintro σ H2 ⟨ps, pp, xs, v, rfl, s2, npp, hpp, run2, hf2, hxl, hlast⟩
      have hpos : 0 < (itemsV ts).length := by
        rw [List.length_map]
        exact List.length_pos_iff.mpr hne
      obtain ⟨ys, pl, ex, hpl⟩ := hlast hpos
      rw [List.drop_eq_nil_of_le (by rw [List.length_map]; omega)] at run2
      cases run2
      refine ⟨_, rfl, fl, xs, rfl, .inl ⟨SqL.of hf2, fun p hp => ?_⟩⟩
      refine q p ys pl _ (fun b o e => by rw [upd_ne (ne_of_none (s2 _ _ e) hp)]; exact s2 _ _ e) (by rw [upd_same, ex]) ?_
      rw [upd_ne (ne_of_none hpl hp)]
      exact hpl
def spLIsR : Sp := fun vs H Q _ => ∃ (l : Addr) (g a : Int) (ts : List Tk) (r : Bool), vs = [.ref l, .int g, .int a] ∧ H l = some (.lst (itemsV ts)) ∧ Run (StepV g a) [] ts [.bl r] ∧ ts ≠ [] ∧ ts.length ≤ 40 ∧ ∀ H', Same H H' → Q (.bl r) H'
theorem scLIsR : FnScope ["_law_items", "_law_given", "_law_answer"] ["_law_items", "_law_given", "_law_answer"] (defScope sLIsR) := ⟨rfl, rfl, rfl, by decide +kernel, rfl, by decide +kernel, by decide +kernel⟩
theorem ok_lisr {f : Addr} {fd : FuncData} (F : Fun K "_law_is_right" "_law_is_right" sLIsR f fd) (D1 : Df P w K mg base CX0 "_law_piles" 3 ["_law_items", "_law_given", "_law_answer"] spLPiles) : FnOk P w K mg base CX0 4 f fd ["_law_items", "_law_given", "_law_answer"] spLIsR := by
  refine F.ok scLIsR (fun vs H Q E h => ?_) (fun cdv A outer s H vs Q E hr h => ?_)
  · obtain ⟨l, g, a, ts, r, rfl, _⟩ := h
    rfl
  · obtain ⟨l, g, a, ts, r, rfl, hl, hrun, hne, hlen, q⟩ := h
    refine ⟨_, pss_one (ps_ret (pe_cmpR (op_eqD hr.units) (pe_ix ix_tup (pcD D1 hr (by decide) (by rfl) (pa_cons (pv 0) (pa_cons (pv 1) (pa_cons (pv 2) pa_nil)))) (pe_un un_neg pe_int) (fun _ _ => rfl)) (pe_tup (pa_cons pe_bl pa_nil)) (nomark _))), ?_⟩
    refine ⟨_, rfl, _, rfl, _, rfl, l, g, a, ts, r, rfl, hl, hrun, hne, hlen, fun p xs pl H' sm hp hpl => ?_⟩
    refine ⟨_, rfl, p, _, _, V.ref pl, rfl, rfl, SqT.of hp, atI_last _ _, by decide, fun t ht => ?_⟩
    have e1 : upd H' t (.tup [V.bl true]) pl = some (.tup [.bl r]) := by rw [upd_ne (ne_of_none hpl ht)]; exact hpl
    refine ⟨.tuple [.bool r], .tuple [.bool true], .tup (SqT.of e1) (.cons (.bl r) .nil), .tup (SqT.of upd_same) (.cons (.bl true) .nil), by cases r <;> decide +kernel, by decide +kernel, ?_⟩
    have e2 : PyData.eqv (.tuple [.bool r]) (.tuple [.bool true]) = r := by cases r <;> decide +kernel
    rw [e2]
    exact q _ fun b o e => by rw [upd_ne (ne_of_none (sm _ _ e) ht)]; exact sm _ _ e
end
end Dt

set_option Elab.async false
set_option linter.all false
set_option maxRecDepth 100000
set_option maxHeartbeats 2000000
namespace Dt
open PySem PySem.Spec PyProof.Rows L2 DtR LamX
/-- what is asked of an own exception's class, beyond what the reading of its fields asks: that isinstance may be asked of its objects -/
structure XcF (K : PySem.W.Frag) (C : Addr) : Prop extends XfC K C where
  told : (PySem.W.clsIn K C).isSome = true ∧ PySem.W.mroIn K C (.type "object") = some true
  cls : PySem.W.findIn K (.ref C) "__class__" = some (some (.builtin "object.__class__")) ∧ PySem.W.specialIn K (.builtin "object.__class__") "__get__" = some (some (.builtin "getset_descriptor.__get__")) ∧ PySem.W.takesIn K (.builtin "object.__class__") = some true
section
variable {X : Cx}
def rIsiE (K : PySem.W.Frag) : List V → Hp → VK → Prop := fun xs H Q => ∃ (a C dd : Addr) (fs : List (Str × V)) (c : V) (u : Value) (b : Bool), xs = [.ref a, c] ∧ H a = some (ExK (.ref C) (some dd) a) ∧ H dd = some (.xd fs) ∧ XcF K C ∧ ClsV c u ∧ PySem.W.kitOne K (.ref C) u = some b ∧ Q (.bl b) H
theorem call_isiE : CallR X (.builtin "isinstance") (rIsiE X.K) := by
  intro pins s σ H xs us Q I r h
  obtain ⟨a, C, dd, fs, c, u, b, rfl, ha, hdd, F, k, e, q⟩ := h
  obtain ⟨u1, u2, rfl, r1, r2⟩ := vals2 r
  have e2 := k.eq r2
  subst e2
  obtain rfl : u1 = Value.ref a := r1
  obtain ⟨oe, vs, he, hz, hd⟩ := exK_at I.hok ha
  have hx : ObjOk X.prog X.w H s.heap dd (.xd fs) := I.hok dd _ hdd
  obtain ⟨mA, hns, hr⟩ := hx
  obtain ⟨od, ho, hl⟩ := lookIn_ns hns
  have J : PySem.W.InstAt s.heap a oe C (some od) := ⟨he, hz.1, by unfold PySem.W.notCls; rw [hd] <;> rfl, by rw [hz.2]; exact ho⟩
  exact PySem.W.kia_one (PySem.W.kitx_exc (ox := oe) (od := some od) F.told.1 F.ga F.gg F.exC F.cls.1 F.cls.2.1 F.cls.2.2 F.told.2) I.kIn J e (fun z => nomatch z) fun tk => ⟨.bl b, H, I.tok tk, rfl, q⟩
def tXk (K : PySem.W.Frag) (te : TE) (f : Str) : TE := fun σ H Q => te σ H fun x H1 => ∃ (a C dd : Addr) (fs : List (Str × V)) (v : V), x = .ref a ∧ H1 a = some (ExK (.ref C) (some dd) a) ∧ H1 dd = some (.xd fs) ∧ XcF K C ∧ PySem.W.findIn K (.ref C) f = some none ∧ fs.lookup f = some v ∧ Q v H1
/-- err.f, the error kept in a name -/
theorem pe_xk {e : Expr} {te : TE} {pos : Pos} {n : Str} (he : PE X e te) (hb : attributeBase e n X.env (eval e X.env) = eval e X.env := by rfl) : PE X (.Attribute e n pos) (tXk X.K te n) := by
  refine ⟨fun pins s σ H Q I h => ?_⟩
  refine attr_of hb (thn (he.run pins s σ H _ I h) fun u s1 hh => ?_)
  obtain ⟨x, H1, I1, rx, a, C, dd, fs, v, ex, ha, hdd, F, hno, l, q⟩ := hh
  subst ex
  obtain rfl : u = Value.ref a := rx
  obtain ⟨oe, vs, heo, hz, hd⟩ := exK_at I1.hok ha
  have hx : ObjOk X.prog X.w H1 s1.heap dd (.xd fs) := I1.hok dd _ hdd
  obtain ⟨mA, hns, hr⟩ := hx
  obtain ⟨od, ho, hl⟩ := lookIn_ns hns
  obtain ⟨u, hu, ru⟩ := RelO.some_of (v := v) (o := mA n) (by rw [← l]; exact hr n)
  have J : PySem.W.InstAt s1.heap a oe C (some od) := ⟨heo, hz.1, by unfold PySem.W.notCls; rw [hd] <;> rfl, by rw [hz.2]; exact ho⟩
  exact HandSPX.exc_get I1.kIn J F.ga F.gg F.exC (PySem.W.findObj_own F.hdC hno rfl (by rw [hl, hu])) (handed_of ru) ⟨v, H1, I1.tok _, ru, q⟩
end
/-- the three classes of errors that the law hears -/
structure HeF (K : PySem.W.Frag) (mg : Str → Option Value) (CK CB CT : Addr) : Prop where
  mK : mg "TickError" = some (.ref CK)
  mB : mg "BadPuzzle" = some (.ref CB)
  mT : mg "TooMany" = some (.ref CT)
  fB : XcF K CB
  fT : XcF K CT
  eB : PySem.W.exmOne K (.ref CB) (.ref CK) = some true
  eT : PySem.W.exmOne K (.ref CT) (.ref CK) = some true
  kTT : PySem.W.kitOne K (.ref CT) (.ref CT) = some true
  kBT : PySem.W.kitOne K (.ref CB) (.ref CT) = some false
  kBB : PySem.W.kitOne K (.ref CB) (.ref CB) = some true
  aw : PySem.W.findIn K (.ref CT) "what" = some none
  am : PySem.W.findIn K (.ref CT) "most" = some none
  ap : PySem.W.findIn K (.ref CB) "part" = some none
/-- _law_heard, given a lambda that raises -/
def TTh (CB CT : Addr) : (XK → Hp → VK → Prop) → Hp → VK → Prop := fun tl H Q => ∀ Qn : VK,
  tl (fun cls d H' => (cls = .ref CT ∧ ∃ dd, d = some dd ∧ H' dd = some (.xd [("most", .int 40), ("what", .str "items")]) ∧ ∀ t H'', Same H' H'' → H' t = none → H'' t = some (.tup [.str "items", .int 40]) → Q (.ref t) H'') ∨
    (cls = .ref CB ∧ ∃ dd z, d = some dd ∧ H' dd = some (.xd [("part", .str z)]) ∧ ∀ t H'', Same H' H'' → H' t = none → H'' t = some (.tup [.str "BadPuzzle", .str z]) → Q (.ref t) H'')) H Qn
theorem scHeard : FnScope ["_law_ask", "_law_caught", "error", "_law_kinds"] ["_law_ask"] (defScope sHeard) := ⟨rfl, rfl, rfl, by decide +kernel, rfl, by decide +kernel, by decide +kernel⟩
section
variable {X : Cx}
theorem takes_len {X : Cx} {W : WX} (t : Takes X W) : Takes X (fun c d σ H => σ.length = X.N.length → W c d σ H) := fun u s' ⟨a, B, sI, pins, σ, H, cls, d, e, I, nb, up, sky, na, os, ag, w⟩ =>
  t u s' ⟨a, B, sI, pins, σ, H, cls, d, e, I, nb, up, sky, na, os, ag, w I.len⟩
theorem heard_gives {g CK CB CT : Addr} {cdg : Value} {q : Str} (T : Nm X.mg) (HF : HeF X.K X.mg CK CB CT) : GivesTo X ["_law_ask", "_law_caught", "error", "_law_kinds"] "_law_heard" (defScope sHeard) g cdg (defBody sHeard) "_law_ask" q (TTh CB CT) := by
  intro f c' s H Q tl act hc h
  refine ⟨_, pss_cons (ps_set (i := 1) scHeard.nd rfl (.inl rfl) pe_non)
    (pss_cons (ps_try_keep (X := (cxOf C8.CX0 X.prog X.w X.K X.mg X.base ["_law_ask", "_law_caught", "error", "_law_kinds"] "_law_heard" (defScope sHeard) g cdg X.A X.stack s H C8.E0).nox) (c := .ref CK) (i := 2)
      (tb := fun W D σ H => ∃ Ech : XK, (∀ cls d (σ' : L2.St) H', σ'.length = 4 → Ech cls d H' → W cls d σ' H') ∧ σ[0]? = some (some (.ref f)) ∧ H c' = some (CodeO c' q) ∧ ∀ Qn, tl Ech H Qn)
      (ts := fun _ _ _ => tAsg (tVar 2) (gName 1))
      rfl rfl rfl scHeard.nd rfl rfl ⟨by rfl, by decide, .inl HF.mK⟩ (fun W pn xe tk _ => ?_) (fun a oe cls d pn _ _ => pss_one (ps_set (i := 1) scHeard.nd rfl (.inl rfl) (pv 2))))
    (pss_cons (ps_if (pt_val (pe_callB call_isiE (by rfl) T.isi (by decide +kernel) (pa_cons (pv 1) (pa_cons (pe_glob (v := .ref CT) (by rfl) HF.mT rfl) pa_nil))))
      (pss_one (ps_ret (pe_tup (pa_cons (pe_xk (pv 1)) (pa_cons (pe_xk (pv 1)) pa_nil))))) pss_nil)
    (pss_cons (ps_set (i := 3) scHeard.nd rfl (.inl rfl) (pe_lst (pa_cons (pe_callB call_isiE (by rfl) T.isi (by decide +kernel) (pa_cons (pv 1) (pa_cons (pe_glob (v := .ref CB) (by rfl) HF.mB rfl) pa_nil))) pa_nil)))
    (pss_cons (ps_if (pt_cmpR op_in_seq pe_bl (pv 3) (by rfl))
      (pss_one (ps_ret (pe_tup (pa_cons (pe_ix ix_list (pe_lst (pa_cons pe_str pa_nil)) (pe_bm PySem.F.plainAttrs_list PySem.F.slot_list_index PySem.F.type_list_index mt_index (pv 3) (pa_cons pe_bl pa_nil)) (fun _ _ => rfl)) (pa_cons (pe_xk (pv 1)) pa_nil))))) pss_nil)
    pss_never)))), ?_⟩
  · refine ⟨fun pins s' σ H' D I h' => ?_⟩
    obtain ⟨Ech, hW, h1, h2, h3⟩ := h'
    have tk2 := takes_len tk
    exact (pss_one (ps_expr (act _ pn xe Ech _ _ tk2 (fun cls d σ' H' e l => hW cls d σ' H' l e)))).run pins s' σ H' D I ⟨h1, h2, h3 _⟩
  · refine ⟨_, fun cls d σ' H' hl hE => ⟨?_, fun a ha => ?_⟩, rfl, hc, h⟩
    · rcases hE with ⟨rfl, _⟩ | ⟨rfl, _⟩
      · exact HF.eT
      · exact HF.eB
    · obtain ⟨x0, x1, x2, x3, rfl⟩ : ∃ x0 x1 x2 x3, σ' = [x0, x1, x2, x3] := by
        match σ', hl with
        | [x0, x1, x2, x3], _ => exact ⟨x0, x1, x2, x3, rfl⟩
      refine ⟨.ref a, rfl, ?_⟩
      have smA : Same H' (upd H' a (ExK cls d a)) := fun b o e => by rw [upd_ne (ne_of_none e ha)]; exact e
      rcases hE with ⟨rfl, dd, rfl, hdd, hQ⟩ | ⟨rfl, dd, z, rfl, hdd, hQ⟩
      · have e1 := smA _ _ hdd
        refine ⟨.ref a, rfl, a, CT, dd, _, _, _, true, rfl, upd_same, e1, HF.fT, .own CT, HF.kTT, true, rfl, iteT ?_⟩
        refine ⟨_, rfl, a, CT, dd, _, .str "items", rfl, upd_same, e1, HF.fT, HF.aw, by kernel_rfl, _, rfl, a, CT, dd, _, .int 40, rfl, upd_same, e1, HF.fT, HF.am, by kernel_rfl, by show 2 ≤ sizeLine; decide, fun t ht => ?_⟩
        exact hQ t _ (fun b o e => by rw [upd_ne (ne_of_none (smA _ _ e) ht)]; exact smA _ _ e) (smA.free ht) upd_same
      · have e1 := smA _ _ hdd
        refine ⟨.ref a, rfl, a, CB, dd, _, _, _, false, rfl, upd_same, e1, HF.fB, .own CT, HF.kBT, false, rfl, iteF ?_⟩
        refine ⟨.ref a, rfl, a, CB, dd, _, _, _, true, rfl, upd_same, e1, HF.fB, .own CB, HF.kBB, by show 1 ≤ sizeLine; decide, fun l hl => ?_⟩
        have smL : Same (upd H' a (ExK (.ref CB) (some dd) a)) (upd (upd H' a (ExK (.ref CB) (some dd) a)) l (.lst [V.bl true])) := fun b o e => by rw [upd_ne (ne_of_none e hl)]; exact e
        have eA := smL _ _ (upd_same (H := H') (a := a) (o := ExK (.ref CB) (some dd) a))
        have eD := smL _ _ e1
        refine ⟨_, rfl, l, [V.bl true], rfl, .inl (SqL.of upd_same), rfl, rfl, true, rfl, iteT ?_⟩
        refine ⟨by show 1 ≤ sizeLine; decide, fun l2 hl2 => ?_⟩
        have smL2 : Same (upd (upd H' a (ExK (.ref CB) (some dd) a)) l (.lst [V.bl true])) (upd (upd (upd H' a (ExK (.ref CB) (some dd) a)) l (.lst [V.bl true])) l2 (.lst [V.str "BadPuzzle"])) := fun b o e => by rw [upd_ne (ne_of_none e hl2)]; exact e
        have eL := smL2 _ _ (upd_same (a := l) (o := .lst [V.bl true]))
        refine ⟨_, rfl, .inl ⟨rfl, _, SqL.of eL⟩, l, [V.bl true], V.bl true, 0, V.bl true, rfl, rfl, SqL.of eL, rfl, rfl, rfl, rfl, (fun m z' hm _ => absurd hm (Nat.not_lt_zero m)), l2, _, ((0 : Nat) : Int), V.str "BadPuzzle", rfl, rfl, SqL.of upd_same, atI_nat rfl, ?_⟩
        refine ⟨_, rfl, a, CB, dd, _, .str z, rfl, smL2 _ _ eA, smL2 _ _ eD, HF.fB, HF.ap, by kernel_rfl, by show 2 ≤ sizeLine; decide, fun t ht => ?_⟩
        have smB := (smA.trans smL).trans smL2
        exact hQ t _ (fun b o e => by rw [upd_ne (ne_of_none (smB _ _ e) ht)]; exact smB _ _ e) (smB.free ht) upd_same
end
end Dt

set_option Elab.async false
set_option linter.all false
set_option maxRecDepth 100000
set_option maxHeartbeats 2000000
namespace Dt
open PySem PySem.Spec PyProof.Rows L2 DtR LamX
theorem nAsc_all : ((List.range 91).all fun i => (numT ((i : Int) - 45)).cps.toList.all (fun c => decide (c < 128))) = true := by decide +kernel
theorem nAsc {k : Int} (h1 : -45 ≤ k) (h2 : k ≤ 45) : ∀ c ∈ (numT k).cps.toList, c < 128 := by
  have h := List.all_eq_true.mp nAsc_all (k + 45).toNat (List.mem_range.mpr (by omega))
  have e : (((k + 45).toNat : Nat) : Int) - 45 = k := by omega
  rw [e] at h
  intro c hc
  exact of_decide_eq_true (List.all_eq_true.mp h c hc)
theorem tk_asc {t : Tk} (h : t.ok) : ∀ c ∈ t.txt.cps.toList, c < 128 := by
  cases t with
  | a => decide +kernel
  | n => decide +kernel
  | num k => exact nAsc h.1 h.2
  | op o => cases o <;> decide +kernel
  | not => decide +kernel
theorem joinL_mem {S : List Nat} {c : Nat} : ∀ {l : List (List Nat)}, c ∈ TL.joinL S l → c ∈ S ∨ ∃ p ∈ l, c ∈ p
  | [], h => by simp [TL.joinL] at h
  | [p], h => .inr ⟨p, List.mem_cons_self .., h⟩
  | p :: q :: r, h => by
    have h' : c ∈ p ++ (S ++ TL.joinL S (q :: r)) := h
    rcases List.mem_append.mp h' with h1 | h1
    · exact .inr ⟨p, List.mem_cons_self .., h1⟩
    · rcases List.mem_append.mp h1 with h2 | h2
      · exact .inl h2
      · rcases joinL_mem h2 with h3 | ⟨x, hx, hc⟩
        · exact .inl h3
        · exact .inr ⟨x, List.mem_cons_of_mem _ hx, hc⟩
theorem jt_ok {ts : List Tk} (h : ∀ t ∈ ts, t.ok) : PyData.strOk (jt ts) = true := by
  unfold PyData.strOk
  rw [Array.all_eq_true_iff_forall_mem]
  intro c hc
  have hc2 : c ∈ TL.tl (jt ts) := by
    show c ∈ (jt ts).cps.toList
    exact Array.mem_toList_iff.mpr hc
  rw [tl_jt] at hc2
  refine decide_eq_true ?_
  rcases joinL_mem hc2 with h1 | ⟨p, hp, h1⟩
  · have : c ∈ [32] := h1
    simp at this
    omega
  · obtain ⟨t, ht, rfl⟩ := List.mem_map.mp hp
    have := tk_asc (h t ht) c h1
    omega
/-! ### the tables and the weft -/
theorem SameW.ext {wf : Addr} {H H' : Hp} (s : SameW wf H H') : ∀ b o, H b = some o → b ≠ wf → H' b = some o := s
theorem Tabs.sameW {T : List (Addr × Str)} {H H' : Hp} {wf : Addr} {n : Nat} (t : Tabs T H) (hw : WeftAt H wf n) (s : SameW wf H H') : Tabs T H' := fun p hp => by
  obtain ⟨cl, a, r, ms, h1, _⟩ := hw.ex
  obtain ⟨ps, e1, e2, e3⟩ := t p hp
  have n1 : p.1 ≠ wf := fun z => by
    rw [z, h1] at e1
    cases e1
  refine ⟨ps, s _ _ e1 n1, e2, fun pos cv hc => ?_⟩
  obtain ⟨c, ec, e4⟩ := e3 pos cv hc
  have n2 : c ≠ wf := fun z => by
    rw [z, h1] at e4
    have z2 := Option.some.inj e4
    unfold CodeO at z2
    cases z2
  exact ⟨c, ec, s _ _ e4 n2⟩
theorem Tabs.same {T : List (Addr × Str)} {H H' : Hp} (t : Tabs T H) (s : Same H H') : Tabs T H' := t.ext s
theorem lst_tbl {xs : List V} : ∀ ps, HO.lst xs ≠ .tbl ps := fun ps z => by cases z
theorem tup_tbl {xs : List V} : ∀ ps, HO.tup xs ≠ .tbl ps := fun ps z => by cases z
theorem ins_tbl {C d : Addr} {fs : List (Str × V)} : ∀ ps, HO.ins C d fs ≠ .tbl ps := fun ps z => by cases z
theorem PzAt.ext {C : Addr} {H H' : Hp} {p : Addr} {ts : List Tk} (h : PzAt C H p ts) (s : ExtN H H') : PzAt C H' p ts := by
  obtain ⟨dx, c, h1, h2⟩ := h.ex
  exact ⟨dx, c, s _ _ h1 ins_tbl, s _ _ h2 tup_tbl⟩
theorem WeftAt.ext {H H' : Hp} {wf : Addr} {n : Nat} (h : WeftAt H wf n) (e : ExtN H H') : WeftAt H' wf n := by
  obtain ⟨cl, at_, rest, ms, h1, h2, h3, h4, h5⟩ := h.ex
  exact ⟨cl, at_, rest, ms, e _ _ h1 lst_tbl, e _ _ h2 lst_tbl, h3, h4, h5⟩
/-- what the joining keeps while it asks -/
structure JH (C wf l1 l2 p1 p2 kl nl : Addr) (t1 t2 : List Tk) (n : Nat) (nums : List (Addr × Int × Int)) (T : List (Addr × Str)) (H : Hp) : Prop where
  w : WeftAt H wf n
  e1 : H l1 = some (.lst (itemsV t1))
  e2 : H l2 = some (.lst (itemsV t2))
  z1 : PzAt C H p1 t1
  z2 : PzAt C H p2 t2
  kp : H kl = some (.lst [.str (jt t1), .str (jt t2)])
  nu : H nl = some (.lst (nums.map fun q => V.ref q.1))
  ns : ∀ q ∈ nums, H q.1 = some (.tup [.int q.2.1, .int q.2.2]) ∧ q.2.1.natAbs ≤ 45 ∧ q.2.2.natAbs ≤ 45
  tb : Tabs T H
theorem JH.ext {C wf l1 l2 p1 p2 kl nl : Addr} {t1 t2 : List Tk} {n : Nat} {nums : List (Addr × Int × Int)} {T : List (Addr × Str)} {H H' : Hp} (h : JH C wf l1 l2 p1 p2 kl nl t1 t2 n nums T H) (e : ExtN H H') (t : Tabs T H') : JH C wf l1 l2 p1 p2 kl nl t1 t2 n nums T H' :=
  ⟨h.w.ext e, e _ _ h.e1 lst_tbl, e _ _ h.e2 lst_tbl, h.z1.ext e, h.z2.ext e, e _ _ h.kp lst_tbl, e _ _ h.nu lst_tbl, fun q hq => ⟨e _ _ (h.ns q hq).1 tup_tbl, (h.ns q hq).2⟩, t⟩
theorem JH.same {C wf l1 l2 p1 p2 kl nl : Addr} {t1 t2 : List Tk} {n : Nat} {nums : List (Addr × Int × Int)} {T : List (Addr × Str)} {H H' : Hp} (h : JH C wf l1 l2 p1 p2 kl nl t1 t2 n nums T H) (e : Same H H') : JH C wf l1 l2 p1 p2 kl nl t1 t2 n nums T H' := h.ext (ExtN.of e) (h.tb.ext e)
/-- a def of two puzzles, called by place and by names -/
structure TwoD (P : Program) (w : World) (K : PySem.W.Frag) (mg : Str → Option Value) (base : Heap) (C CB CT : Addr) (op : Op) (x : Str) (ks : List Str) (gV : List V → List V → List V) : Prop where
  ex : ∃ (f : Addr) (fd : FuncData) (g : List Value → List Value → List Value), FnOk P w K mg base (L2.CX P w) 7 f fd ["one", "other"] (spTwo op K C CB CT) ∧ mg x = some (.ref f) ∧ PySem.W.keepIn K (.ref f) = true ∧ Binds K fd ["one", "other"] [] ∧ KBn K fd ["one", "other"] 0 ks g gV
structure TurnD (P : Program) (w : World) (K : PySem.W.Frag) (mg : Str → Option Value) (base : Heap) (C CB CT : Addr) : Prop where
  ex : ∃ (f : Addr) (fd : FuncData) (g : List Value → List Value → List Value), FnOk P w K mg base (L2.CX P w) 7 f fd ["puzzle"] (spTurned K C CB CT) ∧ mg "turned_of" = some (.ref f) ∧ PySem.W.keepIn K (.ref f) = true ∧ Binds K fd ["puzzle"] [] ∧ KBn K fd ["puzzle"] 0 ["puzzle"] g (fun _ zs => zs)
def gSwap : List V → List V → List V := fun _ zs => match zs with
  | [a, b] => [b, a]
  | l => l
/-- the def _law_heard where it stands -/
structure HeardD (K : PySem.W.Frag) (mg : Str → Option Value) : Prop where
  ex : ∃ (f : Addr) (fd : FuncData), Fun K "_law_heard" "_law_heard" sHeard f fd ∧ mg "_law_heard" = some (.ref f) ∧ Binds K fd ["_law_ask"] []
theorem scJR : FnScope ["_law_weft_here", "_law_one_here", "_law_other", "_law_kept", "_law_numbers", "_law_heard_here", "_law_both", "_law_either", "_law_given", "_law_answer", "_law_mine", "_law_its", "_law_turned", "_law_first", "_law_second", "_law_turn", "_law_pair"] ["_law_weft_here", "_law_one_here", "_law_other"] (defScope sJR) := ⟨rfl, rfl, rfl, by decide +kernel, rfl, by decide +kernel, by decide +kernel⟩
end Dt

set_option Elab.async false
set_option linter.all false
set_option maxRecDepth 100000
set_option maxHeartbeats 2000000
namespace Dt
open PySem PySem.Spec PyProof.Rows L2 DtR LamX
theorem ix_tupK {X : Cx} {K : PySem.W.Frag} (h : X.K = K) : IxR X (rIxT K) := h ▸ ix_tup
abbrev NJR : List Str := ["_law_weft_here", "_law_one_here", "_law_other", "_law_kept", "_law_numbers", "_law_heard_here", "_law_both", "_law_either", "_law_given", "_law_answer", "_law_mine", "_law_its", "_law_turned", "_law_first", "_law_second", "_law_turn", "_law_pair"]
theorem itemsV_txt (ts : List Tk) : itemsV ts = (ts.map Tk.txt).map V.str := by rw [List.map_map]; rfl
theorem PzAt.sameW {C wf : Addr} {H H' : Hp} {p : Addr} {ts : List Tk} {n : Nat} (h : PzAt C H p ts) (hw : WeftAt H wf n) (s : SameW wf H H') : PzAt C H' p ts := by
  obtain ⟨cl, a, r, ms, h1, _⟩ := hw.ex
  obtain ⟨dx, c, e1, e2⟩ := h.ex
  have n1 : p ≠ wf := fun z => by
    rw [z, h1] at e1
    cases e1
  have n2 : c ≠ wf := fun z => by
    rw [z, h1] at e2
    cases e2
  exact ⟨dx, c, s _ _ e1 n1, s _ _ e2 n2⟩
theorem TruthT.tks {ts : List Tk} {d : Nat} (h : TruthT d ts) (hl : ts.length ≤ 100) : Tks ts := ⟨h.ok, h.ne, hl⟩
theorem ne_self (x : V) : V.bl (!decide (x = x)) = V.bl false := by simp
/-- ' '.join(one + other + ['and']) -/
theorem join3_run {l1 l2 : Addr} {t1 t2 : List Tk} {o : Op} {z : Str} {H : Hp} {σ : L2.St} {Q : VK} (hz : z = (Tk.op o).txt) (s1 : σ[1]? = some (some (.ref l1))) (s2 : σ[2]? = some (some (.ref l2))) (e1 : H l1 = some (.lst (itemsV t1))) (e2 : H l2 = some (.lst (itemsV t2)))
    (hk : Tks (t1 ++ t2 ++ [.op o])) (q : ∀ c H', Same H H' → H' c = some (.lst (((t1 ++ t2 ++ [Tk.op o]).map Tk.txt).map V.str)) → Q (.ref c) H') :
    tOp rCat (tOp rCat (tVar 1) (tVar 2)) (tLst (tCons (tC (.str z)) tNil)) σ H Q := by
  have hlen := hk.len
  simp only [List.length_append, List.length_singleton] at hlen
  have s9 : (1000 : Nat) ≤ sizeLine := by decide
  refine ⟨_, s1, _, s2, l1, l2, _, _, rfl, rfl, e1, e2, by simp; omega, fun a ha => ?_⟩
  refine ⟨by show 1 ≤ sizeLine; decide, fun b hb => ?_⟩
  have sma : Same H (upd H a (.lst (itemsV t1 ++ itemsV t2))) := fun c u e => by rw [upd_ne (ne_of_none e ha)]; exact e
  have smb : Same (upd H a (.lst (itemsV t1 ++ itemsV t2))) (upd (upd H a (.lst (itemsV t1 ++ itemsV t2))) b (.lst [V.str z])) := fun c u e => by rw [upd_ne (ne_of_none e hb)]; exact e
  refine ⟨a, b, _, _, rfl, rfl, smb _ _ upd_same, upd_same, by simp; omega, fun c hc => ?_⟩
  have e3 : (upd (upd (upd H a (.lst (itemsV t1 ++ itemsV t2))) b (.lst [V.str z])) c (.lst ((itemsV t1 ++ itemsV t2) ++ [V.str z]))) c = some (.lst (((t1 ++ t2 ++ [Tk.op o]).map Tk.txt).map V.str)) := by
    rw [upd_same, ← itemsV_txt, itemsV_app, itemsV_app, hz]
    rfl
  exact q c _ ((sma.trans smb).trans fun d u e => by rw [upd_ne (ne_of_none e hc)]; exact e) e3
/-- ' '.join(one + ['not']) -/
theorem join2_run {l1 : Addr} {t1 : List Tk} {H : Hp} {σ : L2.St} {Q : VK} (s1 : σ[1]? = some (some (.ref l1))) (e1 : H l1 = some (.lst (itemsV t1)))
    (hk : Tks (t1 ++ [.not])) (q : ∀ c H', Same H H' → H' c = some (.lst (((t1 ++ [Tk.not]).map Tk.txt).map V.str)) → Q (.ref c) H') :
    tOp rCat (tVar 1) (tLst (tCons (tC (.str "not")) tNil)) σ H Q := by
  have hlen := hk.len
  simp only [List.length_append, List.length_singleton] at hlen
  have s9 : (1000 : Nat) ≤ sizeLine := by decide
  refine ⟨_, s1, by show 1 ≤ sizeLine; decide, fun b hb => ?_⟩
  have smb : Same H (upd H b (.lst [V.str "not"])) := fun c u e => by rw [upd_ne (ne_of_none e hb)]; exact e
  refine ⟨l1, b, _, _, rfl, rfl, smb _ _ e1, upd_same, by simp; omega, fun c hc => ?_⟩
  have e3 : (upd (upd H b (.lst [V.str "not"])) c (.lst (itemsV t1 ++ [V.str "not"]))) c = some (.lst (((t1 ++ [Tk.not]).map Tk.txt).map V.str)) := by
    rw [upd_same, ← itemsV_txt, itemsV_app]
    rfl
  exact q c _ (smb.trans fun d u e => by rw [upd_ne (ne_of_none e hc)]; exact e) e3
theorem andQ {σ : L2.St} {H : Hp} {Q : VK} {r1 r2 : Bool} {j : Nat} (hs : σ[j]? = some (some (.bl r2))) (q : Q (.bl (r1 && r2)) H) : if r1 = true then tVar j σ H Q else Q (.bl false) H := by
  cases r1 with
  | true => exact iteT ⟨_, hs, q⟩
  | false => exact iteF q
theorem orQ {σ : L2.St} {H : Hp} {Q : VK} {r1 r2 : Bool} {j : Nat} (hs : σ[j]? = some (some (.bl r2))) (q : Q (.bl (r1 || r2)) H) : if r1 = true then Q (.bl true) H else tVar j σ H Q := by
  cases r1 with
  | true => exact iteT q
  | false => exact iteF ⟨_, hs, q⟩
theorem sh4 {a b : Str} {x y : Int} (ha : PyData.strOk a = true) (hb : PyData.strOk b = true) : SeqAt.shaped (.list [.str a, .str b, .int x, .int y]) = true := by
  unfold SeqAt.shaped
  simp [PyData.canLay0, PyData.canLayAll0, PyData.depth, PyData.depthAll, ha, hb]
theorem sh2 {a b : Str} (ha : PyData.strOk a = true) (hb : PyData.strOk b = true) : SeqAt.shaped (.list [.str a, .str b]) = true := by
  unfold SeqAt.shaped
  simp [PyData.canLay0, PyData.canLayAll0, PyData.depth, PyData.depthAll, ha, hb]
theorem ne_sh {d : PyData} (h : SeqAt.shaped d = true) : V.bl (!PyData.eqv d d) = V.bl false := by rw [SeqAt.eqv_refl d (SeqAt.canLay_of_shaped h)]; rfl
abbrev dItems : PyData := .tuple [.str "items", .int 40]
theorem dpItems {K : PySem.W.Frag} {H : Hp} {t : Addr} (h : H t = some (.tup [.str "items", .int 40])) : Dp K H (.ref t) dItems := .tup (SqT.of h) (.cons (.str _) (.cons (.int _) .nil))

def rJ (K : PySem.W.Frag) : V → List V → Hp → VK → Prop := fun x xs H Q => ∃ a p, ∃ ys : List Str, x = .str a ∧ xs = [.ref p] ∧ (SqL K H p (ys.map V.str) ∨ SqT K H p (ys.map V.str)) ∧ (ys.map (·.length)).sum + ys.length * a.length ≤ 16777216 ∧ Q (.str (Txt.join a ys)) H
theorem upS (H : Hp) (a : Addr) (o : HO) (h : H a = none) : Same H (upd H a o) := fun b u e => by rw [upd_ne (ne_of_none e h)]; exact e
/-- the texts and the costs of both joined ones -/
theorem lists_run {K : PySem.W.Frag} {mg : Str → Option Value} {C l1 l2 pb pe : Addr} {t1 t2 : List Tk} {H : Hp} {σ : L2.St} {Q : VK} (Pz : PzC K mg C) (s1 : σ[1]? = some (some (.ref l1))) (s2 : σ[2]? = some (some (.ref l2))) (s6 : σ[6]? = some (some (.ref pb))) (s7 : σ[7]? = some (some (.ref pe)))
    (e1 : H l1 = some (.lst (itemsV t1))) (e2 : H l2 = some (.lst (itemsV t2))) (zb : PzAt C H pb (t1 ++ t2 ++ [.op .and])) (ze : PzAt C H pe (t1 ++ t2 ++ [.op .or])) (tkB : Tks (t1 ++ t2 ++ [.op .and])) (tkE : Tks (t1 ++ t2 ++ [.op .or]))
    (q : ∀ H', Same H H' → Q (.bl false) H') :
    tOp (rNeD K) (tLst (tCons (tFld K (tVar 6) "text") (tCons (tFld K (tVar 7) "text") (tCons (tFld K (tVar 6) "cost") (tCons (tFld K (tVar 7) "cost") tNil)))))
      (tOp rCat (tLst (tCons (tM1 (rJ K) (tC (.str " ")) (tOp rCat (tOp rCat (tVar 1) (tVar 2)) (tLst (tCons (tC (.str "and")) tNil)))) (tCons (tM1 (rJ K) (tC (.str " ")) (tOp rCat (tOp rCat (tVar 1) (tVar 2)) (tLst (tCons (tC (.str "or")) tNil)))) tNil)))
        (tOp rRep (tLst (tCons (tOp (rI0 fun i j => .int (i + j)) (tOp (rI0 fun i j => .int (i + j)) (tCB (rLen K) (tCons (tVar 1) tNil)) (tCB (rLen K) (tCons (tVar 2) tNil))) (tC (.int 1))) tNil)) (tC (.int 2)))) σ H Q := by
  obtain ⟨db, cb, gb1, _⟩ := zb.ex
  obtain ⟨de, ce, ge1, _⟩ := ze.ex
  have hkB : ((t1 ++ t2 ++ [Tk.op .and]).length : Int) = (t1.length : Int) + (t2.length : Int) + 1 := by simp; omega
  have hkE : ((t1 ++ t2 ++ [Tk.op .or]).length : Int) = (t1.length : Int) + (t2.length : Int) + 1 := by simp; omega
  have fB := pfl_cost (t1 ++ t2 ++ [.op .and]) cb
  have fE := pfl_cost (t1 ++ t2 ++ [.op .or]) ce
  rw [hkB] at fB
  rw [hkE] at fE
  have tB := pfl_text (t1 ++ t2 ++ [.op .and]) cb
  have tE := pfl_text (t1 ++ t2 ++ [.op .or]) ce
  have hB : Txt.join " " ((t1 ++ t2 ++ [Tk.op .and]).map Tk.txt) = jt (t1 ++ t2 ++ [.op .and]) := rfl
  have hE : Txt.join " " ((t1 ++ t2 ++ [Tk.op .or]).map Tk.txt) = jt (t1 ++ t2 ++ [.op .or]) := rfl
  have okB := jt_ok tkB.ok
  have okE := jt_ok tkE.ok
  generalize jt (t1 ++ t2 ++ [.op .and]) = jB at tB hB okB
  generalize jt (t1 ++ t2 ++ [.op .or]) = jE at tE hE okE
  generalize pfl (t1 ++ t2 ++ [.op .and]) cb = flB at gb1 fB tB
  generalize pfl (t1 ++ t2 ++ [.op .or]) ce = flE at ge1 fE tE
  obtain ⟨k, hk⟩ : ∃ k : Int, k = (t1.length : Int) + (t2.length : Int) + 1 := ⟨_, rfl⟩
  rw [← hk] at fB fE
  refine ⟨_, s6, pb, C, db, _, _, rfl, gb1, Pz.cl, Pz.nt, tB, _, s7, pe, C, de, _, _, rfl, ge1, Pz.cl, Pz.nt, tE, _, s6, pb, C, db, _, _, rfl, gb1, Pz.cl, Pz.no, fB, _, s7, pe, C, de, _, _, rfl, ge1, Pz.cl, Pz.no, fE, by show 4 ≤ sizeLine; decide, fun a8 ha8 => ?_⟩
  have e8 := upd_same (H := H) (a := a8) (o := .lst [V.str jB, V.str jE, V.int k, V.int k])
  have sm8 := upS H a8 (.lst [V.str jB, V.str jE, V.int k, V.int k]) ha8
  generalize upd H a8 (.lst [V.str jB, V.str jE, V.int k, V.int k]) = H8 at e8 sm8
  refine ⟨⟨_, rfl⟩, join3_run (o := .and) rfl s1 s2 (sm8 _ _ e1) (sm8 _ _ e2) tkB fun cB H9 sm9 eB => ⟨_, cB, _, rfl, rfl, .inl (SqL.of eB), Nat.le_trans tkB.sum (by decide), ?_⟩⟩
  rw [hB]
  have sm09 := sm8.trans sm9
  refine ⟨⟨_, rfl⟩, join3_run (o := .or) rfl s1 s2 (sm09 _ _ e1) (sm09 _ _ e2) tkE fun cE H10 sm10 eE => ⟨_, cE, _, rfl, rfl, .inl (SqL.of eE), Nat.le_trans tkE.sum (by decide), ?_⟩⟩
  rw [hE]
  refine ⟨by show 2 ≤ sizeLine; decide, fun a11 ha11 => ?_⟩
  have e11 := upd_same (H := H10) (a := a11) (o := .lst [V.str jB, V.str jE])
  have sm11 := upS H10 a11 (.lst [V.str jB, V.str jE]) ha11
  generalize upd H10 a11 (.lst [V.str jB, V.str jE]) = H11 at e11 sm11
  have sm011 := (sm09.trans sm10).trans sm11
  refine ⟨_, s1, _, t1.length, rfl, .inl ⟨_, SqL.of (sm011 _ _ e1), by simp⟩, _, s2, _, t2.length, rfl, .inl ⟨_, SqL.of (sm011 _ _ e2), by simp⟩, _, _, rfl, rfl, _, _, rfl, rfl, by show 1 ≤ sizeLine; decide, fun a12 ha12 => ?_⟩
  have e12 := upd_same (H := H11) (a := a12) (o := .lst [V.int ((t1.length : Int) + (t2.length : Int) + 1)])
  have sm12 := upS H11 a12 (.lst [V.int ((t1.length : Int) + (t2.length : Int) + 1)]) ha12
  generalize upd H11 a12 (.lst [V.int ((t1.length : Int) + (t2.length : Int) + 1)]) = H12 at e12 sm12
  rw [← hk] at e12
  refine ⟨a12, 2, [V.int k], rfl, rfl, e12, by decide, by decide, by show 2 ≤ sizeLine; decide, fun a13 ha13 => ?_⟩
  have e13 : upd H12 a13 (.lst (List.replicate (2 : Int).toNat [V.int k]).flatten) a13 = some (.lst [V.int k, V.int k]) := upd_same
  have sm13 := upS H12 a13 (.lst (List.replicate (2 : Int).toNat [V.int k]).flatten) ha13
  generalize upd H12 a13 (.lst (List.replicate (2 : Int).toNat [V.int k]).flatten) = H13 at e13 sm13
  refine ⟨a11, a13, [V.str jB, V.str jE], [V.int k, V.int k], rfl, rfl, sm13 _ _ (sm12 _ _ e11), e13, by show 4 ≤ sizeLine; decide, fun a14 ha14 => ?_⟩
  have e14 : upd H13 a14 (.lst ([V.str jB, V.str jE] ++ [V.int k, V.int k])) a14 = some (.lst [V.str jB, V.str jE, V.int k, V.int k]) := upd_same
  have sm14 := upS H13 a14 (.lst ([V.str jB, V.str jE] ++ [V.int k, V.int k])) ha14
  generalize upd H13 a14 (.lst ([V.str jB, V.str jE] ++ [V.int k, V.int k])) = H14 at e14 sm14
  have smT := ((((sm9.trans sm10).trans sm11).trans sm12).trans sm13).trans sm14
  have shD := sh4 (x := k) (y := k) okB okE
  have dp : ∀ a, H14 a = some (.lst [V.str jB, V.str jE, V.int k, V.int k]) → Dp K H14 (.ref a) (.list [.str jB, .str jE, .int k, .int k]) := fun a h => .lst (SqL.of h) (.cons (.str _) (.cons (.str _) (.cons (.int _) (.cons (.int _) .nil))))
  refine ⟨_, _, dp _ (smT _ _ e8), dp _ e14, shD, shD, ?_⟩
  rw [SeqAt.eqv_refl _ (SeqAt.canLay_of_shaped shD)]
  exact q H14 (sm8.trans smT)
/-- both answers, shown -/
theorem reprs_run {K : PySem.W.Frag} {C pb pe : Addr} {g a : Int} {tb te : List Tk} {r1 r2 : Bool} {H : Hp} {σ : L2.St} {Q : VK} (s6 : σ[6]? = some (some (.ref pb))) (s7 : σ[7]? = some (some (.ref pe))) (s8 : σ[8]? = some (some (.int g))) (s9 : σ[9]? = some (some (.int a))) (s10 : σ[10]? = some (some (.bl r1))) (s11 : σ[11]? = some (some (.bl r2)))
    (zb : PzAt C H pb tb) (ze : PzAt C H pe te) (hg : g.natAbs ≤ 45) (ha : a.natAbs ≤ 45) (rb : Run (StepV g a) [] tb [.bl (r1 && r2)]) (re : Run (StepV g a) [] te [.bl (r1 || r2)]) (nb : tb ≠ []) (ne : te ≠ []) (lb : tb.length ≤ 40) (le : te.length ≤ 40)
    (q : ∀ H', Same H H' → Q (.bl false) H') :
    tOp rNe (tCB (fun xs H Q => ∃ a d, xs = [.ref a] ∧ Dp K H (.ref a) d ∧ d.showable = true ∧ d.hasDict = false ∧ d.depth ≤ 20 ∧ d.shown.length ≤ sizeLine ∧ Q (.str d.shown) H) (tCons (tLst (tCons (tCall (spIsR C) [] E0 (tCons (tVar 6) (tCons (tVar 8) (tCons (tVar 9) tNil)))) (tCons (tCall (spIsR C) [] E0 (tCons (tVar 7) (tCons (tVar 8) (tCons (tVar 9) tNil)))) tNil))) tNil))
      (tCB (fun xs H Q => ∃ a d, xs = [.ref a] ∧ Dp K H (.ref a) d ∧ d.showable = true ∧ d.hasDict = false ∧ d.depth ≤ 20 ∧ d.shown.length ≤ sizeLine ∧ Q (.str d.shown) H) (tCons (tLst (tCons (fun σ H Q => tVar 10 σ H fun x H1 => ∃ c, x = .bl c ∧ if c = true then tVar 11 σ H1 Q else Q (.bl false) H1) (tCons (fun σ H Q => tVar 10 σ H fun x H1 => ∃ c, x = .bl c ∧ if c = true then Q (.bl true) H1 else tVar 11 σ H1 Q) tNil))) tNil)) σ H Q := by
  refine ⟨_, s6, _, s8, _, s9, pb, _, _, _, r1 && r2, rfl, zb, hg, ha, rb, nb, lb, fun H18 sm18 => ?_⟩
  refine ⟨_, s7, _, s8, _, s9, pe, _, _, _, r1 || r2, rfl, ze.same sm18, hg, ha, re, ne, le, fun H19 sm19 => ?_⟩
  refine ⟨by show 2 ≤ sizeLine; decide, fun a20 ha20 => ?_⟩
  have sm20 := upS H19 a20 (.lst [V.bl (r1 && r2), V.bl (r1 || r2)]) ha20
  refine ⟨a20, .list [.bool (r1 && r2), .bool (r1 || r2)], rfl, .lst (SqL.of upd_same) (.cons (.bl _) (.cons (.bl _) .nil)), by cases r1 <;> cases r2 <;> decide +kernel, by cases r1 <;> cases r2 <;> decide +kernel, by cases r1 <;> cases r2 <;> decide +kernel, by cases r1 <;> cases r2 <;> decide +kernel, ?_⟩
  refine ⟨_, s10, r1, rfl, andQ s11 ?_⟩
  refine ⟨_, s10, r1, rfl, orQ s11 ?_⟩
  refine ⟨by show 2 ≤ sizeLine; decide, fun a21 ha21 => ?_⟩
  have sm21 := upS _ a21 (.lst [V.bl (r1 && r2), V.bl (r1 || r2)]) ha21
  refine ⟨a21, .list [.bool (r1 && r2), .bool (r1 || r2)], rfl, .lst (SqL.of upd_same) (.cons (.bl _) (.cons (.bl _) .nil)), by cases r1 <;> cases r2 <;> decide +kernel, by cases r1 <;> cases r2 <;> decide +kernel, by cases r1 <;> cases r2 <;> decide +kernel, by cases r1 <;> cases r2 <;> decide +kernel, rfl, ?_⟩
  have e : (V.bl (!decide (V.str (PyData.shown (.list [.bool (r1 && r2), .bool (r1 || r2)])) = V.str (PyData.shown (.list [.bool (r1 && r2), .bool (r1 || r2)]))))) = V.bl false := ne_self _
  rw [e]
  exact q _ (((sm18.trans sm19).trans sm20).trans sm21)
end Dt

set_option Elab.async false
set_option linter.all false
set_option maxRecDepth 100000
set_option maxHeartbeats 2000000
namespace Dt
open PySem PySem.Spec PyProof.Rows L2 DtR LamX
theorem turnA_run {K : PySem.W.Frag} {mg : Str → Option Value} {C l1 pt : Addr} {t1 : List Tk} {H : Hp} {σ : L2.St} {Q : VK} (Pz : PzC K mg C) (s1 : σ[1]? = some (some (.ref l1))) (s12 : σ[12]? = some (some (.ref pt)))
    (e1 : H l1 = some (.lst (itemsV t1))) (zt : PzAt C H pt (t1 ++ [.not])) (tkT : Tks (t1 ++ [.not])) (q : ∀ H', Same H H' → Q (.bl false) H') :
    tOp rNe (tFld K (tVar 12) "text") (tM1 (rJ K) (tC (.str " ")) (tOp rCat (tVar 1) (tLst (tCons (tC (.str "not")) tNil)))) σ H Q := by
  obtain ⟨dt, ct, g1, _⟩ := zt.ex
  refine ⟨_, s12, pt, C, dt, _, _, rfl, g1, Pz.cl, Pz.nt, pfl_text _ _, ⟨_, rfl⟩, join2_run s1 e1 tkT fun c H9 sm9 e9 => ⟨_, c, _, rfl, rfl, .inl (SqL.of e9), Nat.le_trans tkT.sum (by decide), rfl, ?_⟩⟩
  have e : V.bl (!decide (V.str (jt (t1 ++ [.not])) = V.str (Txt.join " " ((t1 ++ [Tk.not]).map Tk.txt)))) = V.bl false := ne_self _
  rw [e]
  exact q _ sm9
theorem turnB_run {K : PySem.W.Frag} {mg : Str → Option Value} {C p1 p2 kl : Addr} {t1 t2 : List Tk} {H : Hp} {σ : L2.St} {Q : VK} (Pz : PzC K mg C) (s3 : σ[3]? = some (some (.ref kl))) (s13 : σ[13]? = some (some (.ref p1))) (s14 : σ[14]? = some (some (.ref p2)))
    (z1 : PzAt C H p1 t1) (z2 : PzAt C H p2 t2) (kp : H kl = some (.lst [.str (jt t1), .str (jt t2)])) (ok1 : ∀ t ∈ t1, t.ok) (ok2 : ∀ t ∈ t2, t.ok) (q : ∀ H', Same H H' → Q (.bl false) H') :
    tOp (rNeD K) (tLst (tCons (tFld K (tVar 13) "text") (tCons (tFld K (tVar 14) "text") tNil))) (tVar 3) σ H Q := by
  obtain ⟨d1, c1, g1, _⟩ := z1.ex
  obtain ⟨d2, c2, g2, _⟩ := z2.ex
  have sh := sh2 (jt_ok ok1) (jt_ok ok2)
  have f1 := pfl_text t1 c1
  have f2 := pfl_text t2 c2
  generalize jt t1 = j1 at sh f1 kp
  generalize jt t2 = j2 at sh f2 kp
  refine ⟨_, s13, p1, C, d1, _, _, rfl, g1, Pz.cl, Pz.nt, f1, _, s14, p2, C, d2, _, _, rfl, g2, Pz.cl, Pz.nt, f2, by show 2 ≤ sizeLine; decide, fun a ha => ?_⟩
  have ea := upd_same (H := H) (a := a) (o := .lst [V.str j1, V.str j2])
  have sm := upS H a (.lst [V.str j1, V.str j2]) ha
  generalize upd H a (.lst [V.str j1, V.str j2]) = H1 at ea sm
  have dp : ∀ b, H1 b = some (.lst [V.str j1, V.str j2]) → Dp K H1 (.ref b) (.list [.str j1, .str j2]) := fun b h => .lst (SqL.of h) (.cons (.str _) (.cons (.str _) .nil))
  refine ⟨_, s3, _, _, dp _ ea, dp _ (sm _ _ kp), sh, sh, ?_⟩
  rw [SeqAt.eqv_refl _ (SeqAt.canLay_of_shaped sh)]
  exact q H1 sm
def rRB : List V → Hp → VK → Prop := fun xs H Q => ∃ b, xs = [.bl b] ∧ Q (.str (bText b)) H
/-- no pair of numbers answers otherwise -/
theorem comp_run {K : PySem.W.Frag} {mg : Str → Option Value} {C wf l1 l2 p1 p2 kl nl pt : Addr} {t1 t2 : List Tk} {n : Nat} {nums : List (Addr × Int × Int)} {T : List (Addr × Str)} {H : Hp} {σ : L2.St} {Q : VK} (ht1 : TruthT 2 t1) (b1 : (t1 ++ [Tk.not]).length ≤ 40)
    (s4 : σ[4]? = some (some (.ref nl))) (s12 : (σ.set 16 none)[12]? = some (some (.ref pt))) (s1 : (σ.set 16 none)[1]? = some (some (.ref l1))) (hl : 16 < σ.length)
    (J : JH C wf l1 l2 p1 p2 kl nl t1 t2 n nums T H) (zt : PzAt C H pt (t1 ++ [.not])) (q : ∀ H', Same H H' → Q (.bl true) H') :
    tOp (rEqD K) (tLc (iList K (tVar 4)) (gName 16) (tTest (tOp rNe (tCB rRB (tCons (tCall (spIsR C) [] E0 (tCons (tVar 12) (tCons (tOp (rIxT K) (tVar 16) (tC (.int 0))) (tCons (tOp (rIxT K) (tVar 16) (tC (.int 1))) tNil)))) tNil))
      (tCB rRB (tCons (tNotV (tCall spLIsR [] E0 (tCons (tVar 1) (tCons (tOp (rIxT K) (tVar 16) (tC (.int 0))) (tCons (tOp (rIxT K) (tVar 16) (tC (.int 1))) tNil))))) tNil)))) (tVar 16) [16]) (tLst tNil) σ H Q := by
  have b0 : t1.length ≤ 40 := by simp at b1; omega
  refine ⟨_, s4, nl, rfl, ⟨_, SqL.of J.nu⟩, fun D hD => lc_list (K := K) (a := nl) (xs := nums.map fun q => V.ref q.1) (fun i H2 => Same H H2 ∧ H2 D = some (.lst [])) ⟨upS H D _ hD, upd_same⟩ (fun i H2 _ ⟨s2, _⟩ => SqL.of (s2 _ _ J.nu)) ?_ ?_⟩
  · rintro i y H2 hi ⟨s2, hD2⟩
    have hil : i < nums.length := by
      have := (List.getElem?_eq_some_iff.mp hi).1
      simpa using this
    have ey : y = V.ref nums[i].1 := by
      rw [List.getElem?_map, List.getElem?_eq_getElem hil] at hi
      exact (Option.some.inj hi).symm
    subst ey
    have J2 := J.same s2
    obtain ⟨hq1, hq2, hq3⟩ := J2.ns nums[i] (List.getElem_mem hil)
    obtain ⟨r1, A1⟩ := ht1.ans hq2 hq3
    have zt2 := zt.same s2
    have f16 : ((σ.set 16 none).set 16 (some (V.ref nums[i].1)))[16]? = some (some (V.ref nums[i].1)) := by
      rw [List.getElem?_set_self (by rw [List.length_set]; exact hl)]
    have f12 : ((σ.set 16 none).set 16 (some (V.ref nums[i].1)))[12]? = some (some (.ref pt)) := by
      rw [List.getElem?_set_ne (by decide)]
      exact s12
    have f1 : ((σ.set 16 none).set 16 (some (V.ref nums[i].1)))[1]? = some (some (.ref l1)) := by
      rw [List.getElem?_set_ne (by decide)]
      exact s1
    refine ⟨by show ((σ.set 16 none).set 16 _).set 16 none = σ.set 16 none; simp, ?_⟩
    refine ⟨_, f12, _, f16, nums[i].1, _, ((0 : Nat) : Int), _, rfl, rfl, SqT.of hq1, atI_nat rfl, _, f16, nums[i].1, _, ((1 : Nat) : Int), _, rfl, rfl, SqT.of hq1, atI_nat rfl, pt, _, _, _, !r1, rfl, zt2, hq2, hq3, A1.turned, by simp, b1, fun H3 sm3 => ⟨_, rfl, ?_⟩⟩
    have hq13 := sm3 _ _ hq1
    refine ⟨_, f1, _, f16, nums[i].1, _, ((0 : Nat) : Int), _, rfl, rfl, SqT.of hq13, atI_nat rfl, _, f16, nums[i].1, _, ((1 : Nat) : Int), _, rfl, rfl, SqT.of hq13, atI_nat rfl, l1, _, _, t1, r1, rfl, sm3 _ _ J2.e1, A1.top, ht1.ne, b0, fun H4 sm4 => ⟨r1, rfl, _, rfl, rfl, false, ne_self _, ?_⟩⟩
    exact iteF ⟨(s2.trans sm3).trans sm4, sm4 _ _ (sm3 _ _ hD2)⟩
  · rintro H2 ⟨s2, hD2⟩
    refine ⟨by show 0 ≤ sizeLine; decide, fun a ha => ?_⟩
    have sm := upS H2 a (.lst []) ha
    refine ⟨.list [], .list [], .lst (SqL.of (sm _ _ hD2)) .nil, .lst (SqL.of upd_same) .nil, by decide +kernel, by decide +kernel, ?_⟩
    have e : PyData.eqv (.list []) (.list []) = true := by decide +kernel
    rw [e]
    exact q _ (s2.trans sm)
end Dt

set_option Elab.async false
set_option linter.all false
set_option maxRecDepth 100000
set_option maxHeartbeats 2000000
namespace Dt
open PySem PySem.Spec PyProof.Rows L2 DtR LamX
section
variable {P : Program} {w : World} {K : PySem.W.Frag} {mg : Str → Option Value} {base : Heap}
def spJR (T : List (Addr × Str)) : Sp := fun vs H Q _ => ∃ (wf l1 l2 : Addr) (t1 t2 : List Tk) (n : Nat), vs = [.ref wf, .ref l1, .ref l2] ∧ WeftAt H wf n ∧ H l1 = some (.lst (itemsV t1)) ∧ H l2 = some (.lst (itemsV t2)) ∧ TruthT 2 t1 ∧ TruthT 2 t2 ∧ t1.length ≤ 40 ∧ t2.length ≤ 40 ∧ n + 10 ≤ 1000000 ∧ Tabs T H ∧
  ∀ H', WeftAt H' wf (n + 10) → Tabs T H' → Q (.bl true) H'
theorem jr_body {f c P1 C CB CT CK : Addr} {TT0 : List (Addr × Str)} (T : Nm mg) (HF : HeF K mg CK CB CT) (Pz : PzC K mg C)
    (M : Ms P w K mg base "Puzzle" C 4 ["self", "text"] (spPzInit C)) (DT : Df P w K mg base CX0 "_law_throw" 1 ["_law_weft_here", "_law_many"] spThrow)
    (D2B : TwoD P w K mg base C CB CT .and "both_of" ["one", "other"] (fun _ zs => zs)) (D2E : TwoD P w K mg base C CB CT .or "either_of" ["other", "one"] gSwap) (DTu : TurnD P w K mg base C CB CT)
    (DIR : Df P w K mg base CX0 "is_right" 6 ["puzzle", "given", "answer"] (spIsR C)) (DLR : Df P w K mg base CX0 "_law_is_right" 4 ["_law_items", "_law_given", "_law_answer"] spLIsR)
    (HD : HeardD K mg) (TB : TabB base mg c P1) (hmT : (P1, (("_law_joined_right" ++ ".<locals>." : Str) ++ "<lambda>" : Str)) ∈ TT0) (hu : ∀ p ∈ TT0, p.1 = P1 → p.2 = (("_law_joined_right" ++ ".<locals>." : Str) ++ "<lambda>" : Str))
    {A : Around} (hgd : A.guards = some []) (outer : List Env) (s : Shared) (H : Hp) (vs : List V) (Q : VK) (hr : Room 9 (A.deeper (envOfC "_law_joined_right" (defScope sJR) s.heap.objs.size f (.ref c)))) (h : spJR TT0 vs H Q E0) :
    ∃ t, PSs (cxOf CX0 P w K mg base NJR "_law_joined_right" (defScope sJR) f (.ref c) A outer s H E0).nox (defBody sJR) t ∧ t { nx := fun _ H' => Q .non H', rt := Q } (L2.start NJR vs) H := by
  obtain ⟨wf, l1, l2, t1, t2, n, rfl, hw, e1, e2, ht1, ht2, b1, b2, hn, hT, q⟩ := h
  obtain ⟨fM, fdM, mM, GM, gM, bM⟩ := M.ex
  obtain ⟨fB, fdB, gb, GB, gB, kB, bB, kbB⟩ := D2B.ex
  obtain ⟨fE, fdE, ge, GE, gE, kE, bE, kbE⟩ := D2E.ex
  obtain ⟨fT, fdT, gt, GT, gT, kT, bT, kbT⟩ := DTu.ex
  obtain ⟨fH, fdH, FH, gH, bH⟩ := HD.ex
  obtain ⟨ocH, odH, kVH, docH, pmH, anH, cdH, ctH, oslH, rfl, lkH, hcgH⟩ := FH.ex
  have hg2 : (A.deeper (envOfC "_law_joined_right" (defScope sJR) s.heap.objs.size f (.ref c))).guards = some [] := hgd
  have hr7 := hr.mono (by decide : 7 ≤ 9)
  have hr5 := hr.mono (by decide : 5 ≤ 9)
  have bR : bootBuiltins ("repr" : Str) = some (.builtin "repr") := by decide +kernel
  refine ⟨_, pss_cons (ps_asg (pe_tup (pa_cons (pe_make mM GM hr5 (by rfl) gM bM .nil pass0 (pa_cons (pe_join pe_str (pv 1)) pa_nil)) (pa_cons (pe_make mM GM hr5 (by rfl) gM bM .nil pass0 (pa_cons (pe_join pe_str (pv 2)) pa_nil)) pa_nil)))
        (pg_tup (by rfl) (pgs_cons (pg_name (i := 13) scJR.nd rfl (.inr rfl)) (pgs_cons (pg_name (i := 14) scJR.nd rfl (.inr rfl)) pgs_nil))))
    (pss_cons (ps_par (i := 3) (j := 4) (by rfl) scJR.nd rfl rfl (by decide) rfl rfl (pa_cons (pe_lst (pa_cons (pe_fld (pv 13) rfl) (pa_cons (pe_fld (pv 14) rfl) pa_nil)))
        (pa_cons (pe_lc (own := [("_law_turn", 15)]) (g := gName 15) (tt := tYes) rfl scJR.nd (pi_range1 rfl T.range (pa_cons pe_int pa_nil)) (blkOk_by (N := NJR) (sc := defScope sJR) (by decide +kernel))
          (fun _ _ _ _ _ => pg_name (i := 15) scJR.nd rfl (Or.inl rfl)) (fun _ _ _ _ _ => pts_nil)
          (fun _ _ _ _ _ => pe_tup (pa_cons (pe_op op_sub (pcD DT hr (by decide) (by rfl) (pa_cons (pv 0) (pa_cons pe_int pa_nil))) pe_int) (pa_cons (pe_op op_sub (pcD DT hr (by decide) (by rfl) (pa_cons (pv 0) (pa_cons pe_int pa_nil))) pe_int) pa_nil)))) pa_nil)) (by rfl))
    (pss_cons (ps_if (pt_cmpR op_gt (pe_op op_add (pe_callB call_len (by rfl) T.len PySem.boot_len (pa_cons (pv 1) pa_nil)) (pe_callB call_len (by rfl) T.len PySem.boot_len (pa_cons (pv 2) pa_nil))) pe_int (nomark _))
        (pss_cons (ps_set (i := 5) scJR.nd rfl (.inl rfl) (pe_lst (pa_cons
            (pe_lamcall (T := TT0) (TT := TTh CB CT) (g := fH) (c := c) (P := P1) (k := 7) (by rfl) gH FH.kp lkH hcgH bH scHeard rfl (.inl rfl) (heard_gives T HF) TB rfl hmT hu hr (lamS_by (sc := defScope sJR) (by decide +kernel)) rfl (fun _ _ _ _ _ => rfl)
              (fun A outer s H E f c' hr2 => pe_call GB hr2 (by rfl) gB kB bB .nil (passes_call (takes_of rfl rfl rfl rfl) fun _ _ _ _ z => z) (pa_cons (pv 13) (pa_cons (pv 14) pa_nil))))
            (pa_cons (pe_lamcallD (T := TT0) (TT := TTh CB CT) (g := fH) (c := c) (P := P1) (k := 7) (an := "_law_a1") (by rfl) gH FH.kp lkH hcgH bH scHeard rfl (.inl rfl) (heard_gives T HF) TB rfl hmT hu hr (lamD_by (sc := defScope sJR) (N := NJR) (by decide +kernel)) rfl rfl rfl (by rfl) (fun _ _ _ _ _ _ _ _ => ⟨_, rfl, rfl⟩)
              (fun A outer s H E f c' hr2 => pe_call GE hr2 (by rfl) gE kE bE .nil (passes_call (takes_of rfl rfl rfl rfl) fun _ _ _ _ z => z) (pa_cons (pv 13) (pa_cons (pv 14) pa_nil)))) pa_nil))))
          (pss_one (ps_if (pt_cmpR (op_neD hr.units) (pv 5) (pe_op op_rep (pe_lst (pa_cons (pe_tup (pa_cons pe_str (pa_cons pe_int pa_nil))) pa_nil)) pe_int) (nomark _)) (pss_one (ps_ret pe_bl)) pss_nil)))
        (pss_cons (ps_par (i := 6) (j := 7) (by rfl) scJR.nd rfl rfl (by decide) rfl rfl (pa_cons (pe_callN0 GB hr7 (by rfl) gB kB kbB (passes_call L2.takes0 (E := fun _ _ _ => False) fun _ _ _ _ z => z) (pk_cons (pv 13) (pk_cons (pv 14) pk_nil)))
            (pa_cons (pe_callN0 GE hr7 (by rfl) gE kE kbE (passes_call L2.takes0 (E := fun _ _ _ => False) fun _ _ _ _ z => z) (pk_cons (pv 14) (pk_cons (pv 13) pk_nil))) pa_nil)) (by rfl))
        (pss_cons (ps_if (pt_cmpR (op_neD hr.units) (pe_lst (pa_cons (pe_fld (pv 6) rfl) (pa_cons (pe_fld (pv 7) rfl) (pa_cons (pe_fld (pv 6) rfl) (pa_cons (pe_fld (pv 7) rfl) pa_nil)))))
            (pe_op op_cat (pe_lst (pa_cons (pe_join pe_str (pe_op op_cat (pe_op op_cat (pv 1) (pv 2)) (pe_lst (pa_cons pe_str pa_nil)))) (pa_cons (pe_join pe_str (pe_op op_cat (pe_op op_cat (pv 1) (pv 2)) (pe_lst (pa_cons pe_str pa_nil)))) pa_nil)))
              (pe_op op_rep (pe_lst (pa_cons (pe_op op_add (pe_op op_add (pe_callB call_len (by rfl) T.len PySem.boot_len (pa_cons (pv 1) pa_nil)) (pe_callB call_len (by rfl) T.len PySem.boot_len (pa_cons (pv 2) pa_nil))) pe_int) pa_nil)) pe_int)) (nomark _)) (pss_one (ps_ret pe_bl)) pss_nil)
        (pss_one (ps_for PassesOwn.never rfl (pi_list (pv 4)) (pg_tup (by rfl) (pgs_cons (pg_name (i := 8) scJR.nd rfl (.inl rfl)) (pgs_cons (pg_name (i := 9) scJR.nd rfl (.inl rfl)) pgs_nil)))
          (pss_cons (ps_par (i := 10) (j := 11) (by rfl) scJR.nd rfl rfl (by decide) rfl rfl (pa_cons (pcD DLR hr (by decide) (by rfl) (pa_cons (pv 1) (pa_cons (pv 8) (pa_cons (pv 9) pa_nil)))) (pa_cons (pcD DLR hr (by decide) (by rfl) (pa_cons (pv 2) (pa_cons (pv 8) (pa_cons (pv 9) pa_nil)))) pa_nil)) (by rfl))
          (pss_one (ps_if (pt_cmpR op_ne (pe_callB (cr_reprD hg2 hr.units) (by rfl) T.repr bR (pa_cons (pe_lst (pa_cons (pcD DIR hr (by decide) (by rfl) (pa_cons (pv 6) (pa_cons (pv 8) (pa_cons (pv 9) pa_nil)))) (pa_cons (pcD DIR hr (by decide) (by rfl) (pa_cons (pv 7) (pa_cons (pv 8) (pa_cons (pv 9) pa_nil)))) pa_nil))) pa_nil))
              (pe_callB (cr_reprD hg2 hr.units) (by rfl) T.repr bR (pa_cons (pe_lst (pa_cons (pe_and (pv 10) (pe_one (pv 11))) (pa_cons (pe_or (pv 10) (pe_one (pv 11))) pa_nil))) pa_nil)) (nomark _)) (pss_one (ps_ret pe_bl)) pss_nil))))))))
    (pss_cons (ps_if (pt_cmpR op_eq (pe_callB call_len (by rfl) T.len PySem.boot_len (pa_cons (pv 1) pa_nil)) pe_int (nomark _))
        (pss_one (ps_ret (pe_cmpR (op_eqD hr.units) (pe_lamcall (T := TT0) (TT := TTh CB CT) (g := fH) (c := c) (P := P1) (k := 7) (by rfl) gH FH.kp lkH hcgH bH scHeard rfl (.inl rfl) (heard_gives T HF) TB rfl hmT hu hr (lamS_by (sc := defScope sJR) (by decide +kernel)) rfl (fun _ _ _ _ _ => rfl)
              (fun A outer s H E f c' hr2 => pe_call GT hr2 (by rfl) gT kT bT .nil (passes_call (takes_of rfl rfl rfl rfl) fun _ _ _ _ z => z) (pa_cons (pv 13) pa_nil))) (pe_tup (pa_cons pe_str (pa_cons pe_int pa_nil))) (nomark _)))) pss_nil)
    (pss_cons (ps_set (i := 12) scJR.nd rfl (.inr rfl) (pe_callN0 GT hr7 (by rfl) gT kT kbT (passes_call L2.takes0 (E := fun _ _ _ => False) fun _ _ _ _ z => z) (pk_cons (pv 13) pk_nil)))
    (pss_cons (ps_if (PW.pt (pw_or (pt_cmpR op_ne (pe_fld (pv 12) rfl) (pe_join pe_str (pe_op op_cat (pv 1) (pe_lst (pa_cons pe_str pa_nil)))) (nomark _))
        (pw_or1 (pt_cmpR (op_neD hr.units) (pe_lst (pa_cons (pe_fld (pv 13) rfl) (pa_cons (pe_fld (pv 14) rfl) pa_nil))) (pv 3) (nomark _))))) (pss_one (ps_ret pe_bl)) pss_nil)
    (pss_one (ps_ret (pe_cmpR (op_eqD hr.units) (pe_lc (own := [("_law_pair", 16)]) (g := gName 16) rfl scJR.nd (pi_list (pv 4)) (blkOk_by (N := NJR) (sc := defScope sJR) (by decide +kernel))
          (fun _ _ _ _ _ => pg_name (i := 16) scJR.nd rfl (Or.inl rfl))
          (fun _ _ _ _ _ => pts_one (pt_cmpR op_ne (pe_callB cr_reprB (by rfl) T.repr bR (pa_cons (pcD DIR hr (by decide) (by rfl) (pa_cons (pv 12) (pa_cons (pe_ix (ix_tupK (K := K) rfl) (pv 16) pe_int (fun _ _ => rfl)) (pa_cons (pe_ix (ix_tupK (K := K) rfl) (pv 16) pe_int (fun _ _ => rfl)) pa_nil)))) pa_nil))
            (pe_callB cr_reprB (by rfl) T.repr bR (pa_cons (pe_not (pcD DLR hr (by decide) (by rfl) (pa_cons (pv 1) (pa_cons (pe_ix (ix_tupK (K := K) rfl) (pv 16) pe_int (fun _ _ => rfl)) (pa_cons (pe_ix (ix_tupK (K := K) rfl) (pv 16) pe_int (fun _ _ => rfl)) pa_nil))))) pa_nil)) (nomark _)))
          (fun _ _ _ _ _ => pv 16)) (pe_lst pa_nil) (nomark _))))))))), ?_⟩
  have tk1 := ht1.tks (by omega : t1.length ≤ 100)
  have tk2 := ht2.tks (by omega : t2.length ≤ 100)
  have nw1 := hw.ne e1
  have nw2 := hw.ne e2
  -- first, second
  refine ⟨⟨_, rfl⟩, _, rfl, _, l1, t1.map Tk.txt, rfl, rfl, .inl (SqL.of (by rw [e1, itemsV_txt])), Nat.le_trans tk1.sum (by decide), fun p1 dx1 np1 nd1 _ => ?_⟩
  refine ⟨p1, dx1, t1, rfl, upd_same, tk1, b1, ht1.kinds [] (by simp), fun H1 kp1 z1 => ⟨rfl, ?_⟩⟩
  have sm1 : Same H H1 := fun b o e => by
    have nb := ne_of_none e np1
    exact kp1 b o (by rw [upd_ne nb, upd_ne (ne_of_none e nd1)]; exact e) nb
  refine ⟨⟨_, rfl⟩, _, rfl, _, l2, t2.map Tk.txt, rfl, rfl, .inl (SqL.of (by rw [sm1 _ _ e2, itemsV_txt])), Nat.le_trans tk2.sum (by decide), fun p2 dx2 np2 nd2 _ => ?_⟩
  refine ⟨p2, dx2, t2, rfl, upd_same, tk2, b2, ht2.kinds [] (by simp), fun H2 kp2 z2 => ⟨rfl, ?_⟩⟩
  have sm2 : Same H1 H2 := fun b o e => by
    have nb := ne_of_none e np2
    exact kp2 b o (by rw [upd_ne nb, upd_ne (ne_of_none e nd2)]; exact e) nb
  refine ⟨by show 2 ≤ sizeLine; decide, fun tp htp => ⟨tp, _, rfl, SqT.of upd_same, rfl, _, _, rfl, _, _, rfl, rfl, ?_⟩⟩
  have sm3 : Same H2 (upd H2 tp (.tup [V.ref p1, V.ref p2])) := fun b o e => by rw [upd_ne (ne_of_none e htp)]; exact e
  have sm03 := (sm1.trans sm2).trans sm3
  have z13 := (z1.same sm2).same sm3
  have z23 := z2.same sm3
  obtain ⟨d1, c1, g1, _⟩ := z13.ex
  obtain ⟨d2, c2, g2, _⟩ := z23.ex
  -- kept, numbers
  refine ⟨_, rfl, p1, C, d1, _, _, rfl, g1, Pz.cl, Pz.nt, pfl_text _ _, _, rfl, p2, C, d2, _, _, rfl, g2, Pz.cl, Pz.nt, pfl_text _ _, by show 2 ≤ sizeLine; decide, fun kl hkl => ?_⟩
  have sm4 : Same (upd H2 tp (.tup [V.ref p1, V.ref p2])) (upd (upd H2 tp (.tup [V.ref p1, V.ref p2])) kl (.lst [.str (jt t1), .str (jt t2)])) := fun b o e => by rw [upd_ne (ne_of_none e hkl)]; exact e
  have ekl : (upd (upd H2 tp (.tup [V.ref p1, V.ref p2])) kl (.lst [.str (jt t1), .str (jt t2)])) kl = some (.lst [.str (jt t1), .str (jt t2)]) := upd_same
  have sm04 := sm03.trans sm4
  have z14 := z13.same sm4
  have z24 := z23.same sm4
  have hw4 := hw.same sm04
  have hT4 := Tabs.same hT sm04
  obtain ⟨cl4, a4, r4, ms4, k1, k2, _⟩ := hw4.ex
  refine ⟨5, rfl, by decide, by decide, fun nl hnl => lc_range (n := 5) (fun i H5 => ∃ nums : List (Addr × Int × Int), nums.length = i ∧ H5 nl = some (.lst (nums.map fun q => V.ref q.1)) ∧ SameW wf (upd (upd H2 tp (.tup [V.ref p1, V.ref p2])) kl (.lst [.str (jt t1), .str (jt t2)])) H5 ∧ WeftAt H5 wf (n + 2 * i) ∧
      (∀ q ∈ nums, H5 q.1 = some (.tup [.int q.2.1, .int q.2.2]) ∧ q.2.1.natAbs ≤ 45 ∧ q.2.2.natAbs ≤ 45) ∧ ∃ ys, H5 wf = some (.lst (V.ref cl4 :: ys))) ⟨[], rfl, upd_same, (SameW.refl _ _).upd hnl, hw4.upd hnl, fun q hq => (by cases hq), _, by rw [upd_ne (hw4.neN hnl).symm]; exact k1⟩ ?_ ?_⟩
  · rintro i H5 hi ⟨nums, hnl5, en5, sw5, w5, hns5, ys5, kc5⟩
    refine ⟨rfl, ?_⟩
    refine ⟨_, rfl, wf, 14, _, rfl, w5, by decide, by decide, by omega, fun r1 H6 r10 r11 sw6 w6 kc6 => ⟨_, _, rfl, rfl, ?_⟩⟩
    refine ⟨_, rfl, wf, 14, _, rfl, w6, by decide, by decide, by omega, fun r2 H7 r20 r21 sw7 w7 kc7 => ⟨_, _, rfl, rfl, ?_⟩⟩
    refine ⟨by show 2 ≤ sizeLine; decide, fun tq htq => ?_⟩
    have nnl : nl ≠ wf := hw4.neN hnl
    have en7 := sw7 _ _ (sw6 _ _ en5 nnl) nnl
    have en8 : (upd H7 tq (.tup [.int (r1 - 7), .int (r2 - 7)])) nl = some (.lst (nums.map fun q => V.ref q.1)) := by rw [upd_ne (ne_of_none en7 htq)]; exact en7
    refine ⟨_, en8, by rw [List.length_map, hnl5]; exact small1000 (by omega), nums ++ [(tq, r1 - 7, r2 - 7)], by simp [hnl5], by rw [upd_same]; simp, ?_, ?_, fun q hq => ?_, ?_⟩
    · intro b o e hb
      have eb := sw7 _ _ (sw6 _ _ (sw5 b o e hb) hb) hb
      rw [upd_ne (ne_of_none e hnl), upd_ne (ne_of_none eb htq)]
      exact eb
    · obtain ⟨cl, a', r', ms, f1, f2, f3, f4, f5⟩ := w7.ex
      have n1 : wf ≠ tq := ne_of_none f1 htq
      have n2 : cl ≠ tq := ne_of_none f2 htq
      have n3 : cl ≠ nl := by
        obtain ⟨ys6, kc6⟩ := kc6 _ _ kc5
        obtain ⟨ys7, kc7⟩ := kc7 _ _ kc6
        rw [f1] at kc7
        have z2 := HO.lst.inj (Option.some.inj kc7)
        cases z2
        exact ne_of_none k2 hnl
      refine ⟨cl, a', r', ms, by rw [upd_ne nnl.symm, upd_ne n1]; exact f1, by rw [upd_ne n3, upd_ne n2]; exact f2, f3, by omega, f5⟩
    · rcases List.mem_append.mp hq with hq | hq
      · have e := (hns5 q hq).1
        have nq : q.1 ≠ wf := fun z => by
          obtain ⟨cl, a', r', ms, f1, _⟩ := w5.ex
          rw [z, f1] at e
          cases e
        have e7 := sw7 _ _ (sw6 _ _ e nq) nq
        have nq2 : q.1 ≠ nl := fun z => by
          rw [z, en7] at e7
          cases e7
        exact ⟨by rw [upd_ne nq2, upd_ne (ne_of_none e7 htq)]; exact e7, (hns5 q hq).2⟩
      · rw [List.mem_singleton] at hq
        subst hq
        have ntn : tq ≠ nl := (ne_of_none en7 htq).symm
        exact ⟨by rw [upd_ne ntn, upd_same], by show (r1 - 7).natAbs ≤ 45; omega, by show (r2 - 7).natAbs ≤ 45; omega⟩
    · obtain ⟨ys6, kc6⟩ := kc6 _ _ kc5
      obtain ⟨ys7, kc7⟩ := kc7 _ _ kc6
      exact ⟨ys7, by rw [upd_ne nnl.symm, upd_ne (ne_of_none kc7 htq)]; exact kc7⟩
  · rintro H5 ⟨nums, hnl5, en5, sw5, w5, hns5, _⟩
    refine ⟨_, _, rfl, ?_⟩
    have J : JH C wf l1 l2 p1 p2 kl nl t1 t2 (n + 10) nums TT0 H5 := ⟨w5, sw5 _ _ (sm04 _ _ e1) nw1, sw5 _ _ (sm04 _ _ e2) nw2, z14.sameW hw4 sw5, z24.sameW hw4 sw5, sw5 _ _ ekl ((hw.same sm03).neN hkl), en5, hns5, Tabs.sameW hT4 hw4 sw5⟩
    clear hns5 en5 w5 sw5
    have dpI := fun (H : Hp) (t : Addr) (h : H t = some (.tup [.str "items", .int 40])) => dpItems (K := K) h
    -- len(one) + len(other) > 39
    refine ⟨_, rfl, _, t1.length, rfl, .inl ⟨_, SqL.of J.e1, by simp⟩, _, rfl, _, t2.length, rfl, .inl ⟨_, SqL.of J.e2, by simp⟩, _, _, rfl, rfl, _, _, rfl, rfl, _, rfl, ?_⟩
    refine iteC (fun zA => ?A) (fun zB => ?B)
    case' A =>
      have hm : (39 : Int) < (t1.length : Int) + (t2.length : Int) := of_decide_eq_true zA
      have tkB : Tks (t1 ++ t2 ++ [.op .and]) := ⟨fun t ht => by
        simp only [List.mem_append, List.mem_singleton] at ht
        rcases ht with (ht | ht) | rfl
        · exact ht1.ok t ht
        · exact ht2.ok t ht
        · trivial, by simp, by simp; omega⟩
      have tkE : Tks (t1 ++ t2 ++ [.op .or]) := ⟨fun t ht => by
        simp only [List.mem_append, List.mem_singleton] at ht
        rcases ht with (ht | ht) | rfl
        · exact ht1.ok t ht
        · exact ht2.ok t ht
        · trivial, by simp, by simp; omega⟩
      refine ⟨J.tb, fun H6 eN6 T6 Qn => ?_⟩
      have J6 := J.ext eN6 T6
      refine ⟨_, rfl, _, rfl, .ref p1, .ref p2, rfl, .inr (.inr ⟨p1, p2, t1, t2, rfl, rfl, J6.z1, J6.z2, ht1.ne, ht2.ne, tkB, .inl ⟨by simp; omega, fun d H7 sm7 hd7 hdd7 => .inl ⟨rfl, d, rfl, hdd7, fun ta H8 sm8 hta e8 => ?_⟩⟩⟩)⟩
      have J8 := (J6.same sm7).same sm8
      refine ⟨J8.tb, fun H9 eN9 T9 Qn9 => ?_⟩
      have J9 := J8.ext eN9 T9
      have e9 := eN9 _ _ e8 tup_tbl
      refine ⟨_, rfl, _, rfl, .ref p1, .ref p2, rfl, .inr (.inr ⟨p1, p2, t1, t2, rfl, rfl, J9.z1, J9.z2, ht1.ne, ht2.ne, tkE, .inl ⟨by simp; omega, fun d H10 sm10 hd10 hdd10 => .inl ⟨rfl, d, rfl, hdd10, fun tb H11 sm11 htb e11 => ?_⟩⟩⟩)⟩
      have J11 := (J9.same sm10).same sm11
      have e9' := sm11 _ _ (sm10 _ _ e9)
      refine ⟨by show 2 ≤ sizeLine; decide, fun hl hhl => ?_⟩
      have sm12 : Same H11 (upd H11 hl (.lst [V.ref ta, V.ref tb])) := fun b o e => by rw [upd_ne (ne_of_none e hhl)]; exact e
      refine ⟨_, rfl, by show 2 ≤ sizeLine; decide, fun tt htt => ?_⟩
      have sm13 : Same (upd H11 hl (.lst [V.ref ta, V.ref tb])) (upd (upd H11 hl (.lst [V.ref ta, V.ref tb])) tt (.tup [V.str "items", V.int 40])) := fun b o e => by rw [upd_ne (ne_of_none e htt)]; exact e
      refine ⟨by show 1 ≤ sizeLine; decide, fun ll hll => ?_⟩
      have sm14 : Same (upd (upd H11 hl (.lst [V.ref ta, V.ref tb])) tt (.tup [V.str "items", V.int 40])) (upd (upd (upd H11 hl (.lst [V.ref ta, V.ref tb])) tt (.tup [V.str "items", V.int 40])) ll (.lst [V.ref tt])) := fun b o e => by rw [upd_ne (ne_of_none e hll)]; exact e
      refine ⟨ll, 2, _, rfl, rfl, upd_same, by decide, by decide, by show 2 ≤ sizeLine; decide, fun l3 hl3 => ?_⟩
      have sm15 : Same (upd (upd (upd H11 hl (.lst [V.ref ta, V.ref tb])) tt (.tup [V.str "items", V.int 40])) ll (.lst [V.ref tt])) (upd (upd (upd (upd H11 hl (.lst [V.ref ta, V.ref tb])) tt (.tup [V.str "items", V.int 40])) ll (.lst [V.ref tt])) l3 (.lst (List.replicate (2 : Int).toNat [V.ref tt]).flatten)) := fun b o e => by rw [upd_ne (ne_of_none e hl3)]; exact e
      have smA := (sm13.trans sm14).trans sm15
      have Jt := (J11.same sm12).same smA
      refine ⟨.list [dItems, dItems], .list [dItems, dItems], .lst (SqL.of (smA _ _ upd_same)) (.cons (dpI _ _ (smA _ _ (sm12 _ _ e9'))) (.cons (dpI _ _ (smA _ _ (sm12 _ _ e11))) .nil)), .lst (SqL.of (xs := [V.ref tt, V.ref tt]) upd_same) (.cons (dpI _ _ (sm15 _ _ (sm14 _ _ upd_same))) (.cons (dpI _ _ (sm15 _ _ (sm14 _ _ upd_same))) .nil)), by decide +kernel, by decide +kernel, false, by decide +kernel, iteF ?_⟩
    case' B =>
      have hm : ¬ ((39 : Int) < (t1.length : Int) + (t2.length : Int)) := of_decide_eq_false zB
      have tkB : Tks (t1 ++ t2 ++ [.op .and]) := ⟨fun t ht => by
        simp only [List.mem_append, List.mem_singleton] at ht
        rcases ht with (ht | ht) | rfl
        · exact ht1.ok t ht
        · exact ht2.ok t ht
        · trivial, by simp, by simp; omega⟩
      have tkE : Tks (t1 ++ t2 ++ [.op .or]) := ⟨fun t ht => by
        simp only [List.mem_append, List.mem_singleton] at ht
        rcases ht with (ht | ht) | rfl
        · exact ht1.ok t ht
        · exact ht2.ok t ht
        · trivial, by simp, by simp; omega⟩
      have runB := (TruthT.bin (o := .and) ht1 ht2 (.inl rfl)).kinds [] (by simp)
      have runE := (TruthT.bin (o := .or) ht1 ht2 (.inr rfl)).kinds [] (by simp)
      refine ⟨_, rfl, _, rfl, rfl, rfl, .ref p1, .ref p2, rfl, .inr (.inr ⟨p1, p2, t1, t2, rfl, rfl, J.z1, J.z2, ht1.ne, ht2.ne, tkB, .inr ⟨by simp; omega, runB, fun pb H6 sm6 zb6 => ?_⟩⟩)⟩
      have J6 := J.same sm6
      refine ⟨_, rfl, _, rfl, rfl, rfl, .ref p1, .ref p2, rfl, .inr (.inr ⟨p1, p2, t1, t2, rfl, rfl, J6.z1, J6.z2, ht1.ne, ht2.ne, tkE, .inr ⟨by simp; omega, runE, fun pe H7 sm7 ze7 => ⟨_, _, rfl, ?_⟩⟩⟩)⟩
      have J7 := J6.same sm7
      have zb7 := zb6.same sm7
      refine lists_run Pz rfl rfl rfl rfl J7.e1 J7.e2 zb7 ze7 tkB tkE fun H14 smT => ⟨false, rfl, iteF ?_⟩
      have J14 := J7.same smT
      have zb14 := zb7.same smT
      have ze14 := ze7.same smT
      refine ⟨_, rfl, nl, rfl, ⟨_, SqL.of J14.nu⟩, for_list (K := K) (a := nl) (xs := nums.map fun q => V.ref q.1) (fun i σ H2 => ∃ v8 v9 v10 v11 : Option V, σ = [some (.ref wf), some (.ref l1), some (.ref l2), some (.ref kl), some (.ref nl), none, some (.ref pb), some (.ref pe), v8, v9, v10, v11, none, some (.ref p1), some (.ref p2), none, none] ∧
        JH C wf l1 l2 p1 p2 kl nl t1 t2 (n + 10) nums TT0 H2 ∧ PzAt C H2 pb (t1 ++ t2 ++ [.op .and]) ∧ PzAt C H2 pe (t1 ++ t2 ++ [.op .or])) ⟨none, none, none, none, rfl, J14, zb14, ze14⟩ (fun i σ H2 _ ⟨_, _, _, _, _, J, _, _⟩ => SqL.of J.nu) ?_ ?_⟩
      · rintro i y σ H15 hi ⟨v8, v9, v10, v11, rfl, J15, zb15, ze15⟩
        have hil : i < nums.length := by
          have := (List.getElem?_eq_some_iff.mp hi).1
          simpa using this
        have ey : y = V.ref nums[i].1 := by
          rw [List.getElem?_map, List.getElem?_eq_getElem hil] at hi
          exact (Option.some.inj hi).symm
        subst ey
        obtain ⟨hq1, hq2, hq3⟩ := J15.ns nums[i] (List.getElem_mem hil)
        obtain ⟨r1, A1⟩ := ht1.ans hq2 hq3
        obtain ⟨r2, A2⟩ := ht2.ans hq2 hq3
        refine ⟨_, _, rfl, SqT.of hq1, rfl, _, _, rfl, _, _, rfl, rfl, ?_⟩
        refine ⟨_, rfl, _, rfl, _, rfl, l1, _, _, t1, r1, rfl, J15.e1, A1.top, ht1.ne, b1, fun H16 sm16 => ?_⟩
        have J16 := J15.same sm16
        refine ⟨_, rfl, _, rfl, _, rfl, l2, _, _, t2, r2, rfl, J16.e2, A2.top, ht2.ne, b2, fun H17 sm17 => ⟨_, _, rfl, ?_⟩⟩
        have J17 := J16.same sm17
        have zb17 := (zb15.same sm16).same sm17
        have ze17 := (ze15.same sm16).same sm17
        refine reprs_run (r1 := r1) (r2 := r2) rfl rfl rfl rfl rfl rfl zb17 ze17 hq2 hq3 (A1.both A2) (A1.either A2) (by simp) (by simp) (by simp; omega) (by simp; omega) fun H21 smZ => ⟨false, rfl, iteF ?_⟩
        exact ⟨_, _, _, _, rfl, J17.same smZ, zb17.same smZ, ze17.same smZ⟩
      rintro σ H15 ⟨v8, v9, v10, v11, rfl, Jt, _, _⟩
    all_goals
      have tkT : Tks (t1 ++ [.not]) := ⟨fun t ht => by
        simp only [List.mem_append, List.mem_singleton] at ht
        rcases ht with ht | rfl
        · exact ht1.ok t ht
        · trivial, by simp, by simp; omega⟩
      have runT := (TruthT.neg ht1).kinds [] (by simp)
      refine ⟨_, rfl, _, t1.length, rfl, .inl ⟨_, SqL.of Jt.e1, by simp⟩, rfl, decide ((t1.length : Int) = 40), by rw [dec_int]; congr 1, iteC (fun z40 => ?_) (fun z40 => ?_)⟩
      · have h40 : (t1.length : Int) = 40 := of_decide_eq_true z40
        refine ⟨Jt.tb, fun H6 eN6 T6 Qn => ?_⟩
        have J6 := Jt.ext eN6 T6
        refine ⟨_, rfl, .ref p1, rfl, .inr ⟨p1, t1, rfl, J6.z1, ht1.ne, tkT, .inl ⟨by simp; omega, fun d H7 sm7 hd7 hdd7 => .inl ⟨rfl, d, rfl, hdd7, fun ta H8 sm8 hta e8 => ?_⟩⟩⟩⟩
        have J8 := (J6.same sm7).same sm8
        refine ⟨by show 2 ≤ sizeLine; decide, fun tt htt => ?_⟩
        have sm9 := upS H8 tt (.tup [V.str "items", V.int 40]) htt
        have J9 := J8.same sm9
        refine ⟨dItems, dItems, dpI _ _ (sm9 _ _ e8), dpI _ _ upd_same, by decide +kernel, by decide +kernel, ?_⟩
        have e : PyData.eqv dItems dItems = true := by decide +kernel
        rw [e]
        exact q _ J9.w J9.tb
      · have h40 : ¬ (t1.length : Int) = 40 := of_decide_eq_false z40
        have l40 : (t1 ++ [Tk.not]).length ≤ 40 := by simp; omega
        refine ⟨_, rfl, rfl, rfl, .ref p1, rfl, .inr ⟨p1, t1, rfl, Jt.z1, ht1.ne, tkT, .inr ⟨l40, runT, fun pt H6 sm6 zt6 => ?_⟩⟩⟩
        have J6 := Jt.same sm6
        refine turnA_run Pz rfl rfl J6.e1 zt6 tkT fun H7 sm7 => ⟨false, rfl, iteF ?_⟩
        have J7 := J6.same sm7
        refine turnB_run Pz rfl rfl rfl J7.z1 J7.z2 J7.kp ht1.ok ht2.ok fun H8 sm8 => ⟨false, rfl, iteF ?_⟩
        have J8 := J7.same sm8
        have zt8 := (zt6.same sm7).same sm8
        refine comp_run (C := C) (mg := mg) ht1 l40 rfl rfl rfl (by show 16 < 17; decide) J8 zt8 fun H9 sm9 => ?_
        exact q _ (J8.same sm9).w (J8.same sm9).tb
end
end Dt

set_option Elab.async false
set_option linter.all false
set_option maxRecDepth 100000
set_option maxHeartbeats 2000000
namespace Dt
open PySem PySem.Spec PyProof.Rows L2 DtR LamX
abbrev NL : List Str := ["_law_script", "_law_weft_here", "_law_turn", "_law_one_here", "_law_other", "_law_heard_here", "_law_fine", "_law_none"]
theorem scLaw : FnScope NL ["_law_script"] (defScope sLaw) := ⟨rfl, rfl, rfl, by decide +kernel, rfl, by decide +kernel, by decide +kernel⟩
/-- a def of the module whose code object stands at c -/
structure FunC (K : PySem.W.Frag) (mg : Str → Option Value) (x : Str) (st : Stmt) (f c : Addr) (ps : List Str) : Prop where
  ex : ∃ (oc : Value) (od : Option Addr) (kV doc pm : Value) (an : Option Addr) (ct : Value) (osl : Array (Option Value)),
    K.lookup f = some ⟨oc, od, .func (PySem.W.fnOf x x (defArgs st) (defBody st) (defScope st) .none kV doc pm an (.ref c) ct), osl⟩ ∧ Binds K (PySem.W.fnOf x x (defArgs st) (defBody st) (defScope st) .none kV doc pm an (.ref c) ct) ps []
  cd : PySem.W.codeIn K (.ref c) x = true
  kp : PySem.W.keepIn K (.ref f) = true
  mg_ : mg x = some (.ref f)
/-- what is no puzzle -/
def BadV (H : Hp) (v : V) : Prop := v = .non ∨ v = .int 5 ∨ v = .str "a n =" ∨ (∃ l, v = .ref l ∧ H l = some (.lst [V.str "a", V.str "n", V.str "="])) ∨ v = .bl true
theorem BadV.ext {H H' : Hp} {v : V} (h : BadV H v) (e : ExtN H H') : BadV H' v := by
  rcases h with h | h | h | ⟨l, h, hl⟩ | h
  · exact .inl h
  · exact .inr (.inl h)
  · exact .inr (.inr (.inl h))
  · exact .inr (.inr (.inr (.inl ⟨l, h, e _ _ hl lst_tbl⟩)))
  · exact .inr (.inr (.inr (.inr h)))
theorem BadV.no {K : PySem.W.Frag} {mg : Str → Option Value} {C : Addr} {H : Hp} {v : V} (h : BadV H v) (I : IsP K mg C) : NoPz K C v H := by
  rcases h with rfl | rfl | rfl | ⟨l, rfl, hl⟩ | rfl
  · exact ⟨_, .base .non, I.non⟩
  · exact ⟨_, .base (.int _), I.int⟩
  · exact ⟨_, .base (.str _), I.str⟩
  · exact ⟨_, .base (.lst hl), I.list⟩
  · exact ⟨_, .base (.bl _), I.bool⟩
theorem fine_txt : jt [.a, .n, .op .eq] = "a n =" := by decide +kernel
theorem fine_run : Run StepK [] [.a, .n, .op .eq] [.tru] :=
  .cons (StepK.a (ks := []) (by decide)) (.cons (StepK.n (ks := [.num]) (by decide)) (.cons (StepK.op (ks := []) .eq (by decide)) (.nil _)))
abbrev dBad (z : Str) : PyData := .tuple [.str "BadPuzzle", .str z]
theorem dpBad {K : PySem.W.Frag} {H : Hp} {t : Addr} {z : Str} (h : H t = some (.tup [.str "BadPuzzle", .str z])) : Dp K H (.ref t) (dBad z) := .tup (SqT.of h) (.cons (.str _) (.cons (.str _) .nil))
theorem ext2 {H H1 H2 H3 : Hp} (a : ExtN H H1) (b : Same H1 H2) (c : Same H2 H3) : ExtN H H3 := (a.trans (ExtN.of b)).trans (ExtN.of c)
section
variable {P : Program} {w : World} {K : PySem.W.Frag} {mg : Str → Option Value} {base : Heap}
def spLaw (K : PySem.W.Frag) (TT0 : List (Addr × Str)) : Sp := fun vs H Q _ => ∃ (a : Addr) (ns : List Int), vs = [.ref a] ∧ SqL K H a (ns.map V.int) ∧ ns.length ≤ 63 ∧ Tabs TT0 H ∧ ∀ H', Q (.bl true) H'
theorem law_body {f c P2 fJ cJ P1 C CB CT CK : Addr} {TT0 : List (Addr × Str)} (T : Nm mg) (HF : HeF K mg CK CB CT) (Pz : PzC K mg C) (IP : IsP K mg C)
    (M : Ms P w K mg base "Puzzle" C 4 ["self", "text"] (spPzInit C)) (DT : Df P w K mg base CX0 "_law_throw" 1 ["_law_weft_here", "_law_many"] spThrow)
    (D2B : TwoD P w K mg base C CB CT .and "both_of" ["one", "other"] (fun _ zs => zs)) (D2E : TwoD P w K mg base C CB CT .or "either_of" ["other", "one"] gSwap) (DTu : TurnD P w K mg base C CB CT)
    (DIR : Df P w K mg base CX0 "is_right" 6 ["puzzle", "given", "answer"] (spIsR C)) (DLR : Df P w K mg base CX0 "_law_is_right" 4 ["_law_items", "_law_given", "_law_answer"] spLIsR)
    (HD : HeardD K mg) (TB1 : TabB base mg cJ P1) (hmT1 : (P1, (("_law_joined_right" ++ ".<locals>." : Str) ++ "<lambda>" : Str)) ∈ TT0) (hu1 : ∀ p ∈ TT0, p.1 = P1 → p.2 = (("_law_joined_right" ++ ".<locals>." : Str) ++ "<lambda>" : Str))
    (TB2 : TabB base mg c P2) (hmT2 : (P2, (("law" ++ ".<locals>." : Str) ++ "<lambda>" : Str)) ∈ TT0) (hu2 : ∀ p ∈ TT0, p.1 = P2 → p.2 = (("law" ++ ".<locals>." : Str) ++ "<lambda>" : Str))
    (FJ : FunC K mg "_law_joined_right" sJR fJ cJ ["_law_weft_here", "_law_one_here", "_law_other"])
    (DW : Df P w K mg base CX0 "_law_weft" 1 ["_law_script"] (spWeft K)) (DO : Df P w K mg base CX0 "_law_one" 2 ["_law_weft_here", "_law_some"] spOne) (DC : Df P w K mg base CX0 "_law_check" 9 ["_law_weft_here", "_law_deep"] spCheck) (DL : Df P w K mg base CX0 "_law_long" 2 ["_law_weft_here", "_law_items"] spLong)
    {A : Around} (hgd : A.guards = some []) (outer : List Env) (s : Shared) (H : Hp) (vs : List V) (Q : VK) (hr : Room 10 (A.deeper (envOfC "law" (defScope sLaw) s.heap.objs.size f (.ref c)))) (h : spLaw K TT0 vs H Q E0) :
    ∃ t, PSs (cxOf CX0 P w K mg base NL "law" (defScope sLaw) f (.ref c) A outer s H E0).nox (defBody sLaw) t ∧ t { nx := fun _ H' => Q .non H', rt := Q } (L2.start NL vs) H := by
  obtain ⟨a, ns, rfl, hS, hlen, hT, q⟩ := h
  obtain ⟨fM, fdM, mM, GM, gM, bM⟩ := M.ex
  obtain ⟨fB, fdB, gb, GB, gB, kB, bB, kbB⟩ := D2B.ex
  obtain ⟨fE, fdE, ge, GE, gE, kE, bE, kbE⟩ := D2E.ex
  obtain ⟨fT, fdT, gt, GT, gT, kT, bT, kbT⟩ := DTu.ex
  obtain ⟨fH, fdH, FH, gH, bH⟩ := HD.ex
  obtain ⟨ocH, odH, kVH, docH, pmH, anH, cdH, ctH, oslH, rfl, lkH, hcgH⟩ := FH.ex
  obtain ⟨ocJ, odJ, kVJ, docJ, pmJ, anJ, ctJ, oslJ, lkJ, bJ⟩ := FJ.ex
  have hg2 : (A.deeper (envOfC "law" (defScope sLaw) s.heap.objs.size f (.ref c))).guards = some [] := hgd
  have hr9 := hr.mono (by decide : 9 ≤ 10)
  have hr5 := hr.mono (by decide : 5 ≤ 10)
  refine ⟨_, pss_cons (ps_set (i := 1) scLaw.nd rfl (.inl rfl) (pcD DW hr (by decide) (by rfl) (pa_cons (pv 0) pa_nil)))
    (pss_cons (ps_for PassesOwn.never rfl (pi_range1 rfl T.range (pa_cons pe_int pa_nil)) (pg_name (i := 2) scLaw.nd rfl (.inl rfl))
      (pss_cons (ps_set (i := 3) scLaw.nd rfl (.inl rfl) (pcD DL hr (by decide) (by rfl) (pa_cons (pv 1) (pa_cons (pcD DC hr (by decide) (by rfl) (pa_cons (pv 1) (pa_cons (pcD DT hr (by decide) (by rfl) (pa_cons (pv 1) (pa_cons pe_int pa_nil))) pa_nil))) pa_nil))))
      (pss_cons (ps_set (i := 4) scLaw.nd rfl (.inl rfl) (pcD DO hr (by decide) (by rfl) (pa_cons (pv 1) (pa_cons (pe_lst (pa_cons (pcD DC hr (by decide) (by rfl) (pa_cons (pv 1) (pa_cons pe_int pa_nil))) (pa_cons (pv 3) (pa_cons (pcD DC hr (by decide) (by rfl) (pa_cons (pv 1) (pa_cons pe_int pa_nil)))
          (pa_cons (pe_op op_cat (pe_op op_rep (pe_lst (pa_cons pe_str pa_nil)) pe_int) (pcD DC hr (by decide) (by rfl) (pa_cons (pv 1) (pa_cons pe_int pa_nil)))) pa_nil))))) pa_nil))))
      (pss_one (ps_if (pt_not (pt_val (pe_callQ (sp := spJR TT0) (N := NJR) (k := 9) (E := E0) lkJ FJ.cd scJR hr (by rfl) FJ.mg_ FJ.kp bJ pass0 (fun vs H Q E h => (by obtain ⟨_, _, _, _, _, _, rfl, _⟩ := h; rfl))
          (fun s2 H2 vs2 Q2 hr2 h2 => (by obtain ⟨t, ht, hq⟩ := jr_body T HF Pz M DT D2B D2E DTu DIR DLR HD TB1 hmT1 hu1 hg2 _ s2 H2 vs2 Q2 hr2 h2; exact ⟨t, ht.nox, hq⟩)) (pa_cons (pv 1) (pa_cons (pv 3) (pa_cons (pv 4) pa_nil)))))) (pss_one (ps_ret pe_bl)) pss_nil)))))
    (pss_cons (ps_asg (pe_tup (pa_cons (pe_make mM GM hr5 (by rfl) gM bM .nil pass0 (pa_cons pe_str pa_nil)) (pa_cons (pcD DO hr (by decide) (by rfl) (pa_cons (pv 1) (pa_cons (pe_lst (pa_cons pe_non (pa_cons pe_int (pa_cons pe_str (pa_cons (pe_lst (pa_cons pe_str (pa_cons pe_str (pa_cons pe_str pa_nil)))) (pa_cons pe_bl pa_nil)))))) pa_nil))) pa_nil)))
        (pg_tup (by rfl) (pgs_cons (pg_name (i := 6) scLaw.nd rfl (.inr rfl)) (pgs_cons (pg_name (i := 7) scLaw.nd rfl (.inr rfl)) pgs_nil))))
    (pss_cons (ps_set (i := 5) scLaw.nd rfl (.inl rfl) (pe_lst (pa_cons
        (pe_lamcall (T := TT0) (TT := TTh CB CT) (g := fH) (c := c) (P := P2) (k := 7) (by rfl) gH FH.kp lkH hcgH bH scHeard rfl (.inl rfl) (heard_gives T HF) TB2 rfl hmT2 hu2 hr9 (lamS_by (sc := defScope sLaw) (by decide +kernel)) rfl (fun _ _ _ _ _ => rfl)
          (fun A outer s H E f c' hr2 => pe_call GB hr2 (by rfl) gB kB bB .nil (passes_call (takes_of rfl rfl rfl rfl) fun _ _ _ _ z => z) (pa_cons (pv 7) (pa_cons (pv 7) pa_nil))))
        (pa_cons (pe_lamcallD (T := TT0) (TT := TTh CB CT) (g := fH) (c := c) (P := P2) (k := 7) (an := "_law_a1") (by rfl) gH FH.kp lkH hcgH bH scHeard rfl (.inl rfl) (heard_gives T HF) TB2 rfl hmT2 hu2 hr9 (lamD_by (sc := defScope sLaw) (N := NL) (by decide +kernel)) rfl rfl rfl (by rfl) (fun _ _ _ _ _ _ _ _ => ⟨_, rfl, rfl⟩)
          (fun A outer s H E f c' hr2 => pe_call GB hr2 (by rfl) gB kB bB .nil (passes_call (takes_of rfl rfl rfl rfl) fun _ _ _ _ z => z) (pa_cons (pv 6) (pa_cons (pv 7) pa_nil))))
        (pa_cons (pe_lamcallD (T := TT0) (TT := TTh CB CT) (g := fH) (c := c) (P := P2) (k := 7) (an := "_law_a2") (by rfl) gH FH.kp lkH hcgH bH scHeard rfl (.inl rfl) (heard_gives T HF) TB2 rfl hmT2 hu2 hr9 (lamD_by (sc := defScope sLaw) (N := NL) (by decide +kernel)) rfl rfl rfl (by rfl) (fun _ _ _ _ _ _ _ _ => ⟨_, rfl, rfl⟩)
          (fun A outer s H E f c' hr2 => pe_call GE hr2 (by rfl) gE kE bE .nil (passes_call (takes_of rfl rfl rfl rfl) fun _ _ _ _ z => z) (pa_cons (pv 7) (pa_cons (pv 6) pa_nil)))) pa_nil)))))
    (pss_cons (ps_set (i := 5) scLaw.nd rfl (.inl rfl) (pe_op op_cat (pv 5) (pe_lst (pa_cons
        (pe_lamcall (T := TT0) (TT := TTh CB CT) (g := fH) (c := c) (P := P2) (k := 7) (by rfl) gH FH.kp lkH hcgH bH scHeard rfl (.inl rfl) (heard_gives T HF) TB2 rfl hmT2 hu2 hr9 (lamS_by (sc := defScope sLaw) (by decide +kernel)) rfl (fun _ _ _ _ _ => rfl)
          (fun A outer s H E f c' hr2 => pe_call GE hr2 (by rfl) gE kE bE .nil (passes_call (takes_of rfl rfl rfl rfl) fun _ _ _ _ z => z) (pa_cons (pv 6) (pa_cons (pv 7) pa_nil))))
        (pa_cons (pe_lamcallD (T := TT0) (TT := TTh CB CT) (g := fH) (c := c) (P := P2) (k := 7) (an := "_law_a1") (by rfl) gH FH.kp lkH hcgH bH scHeard rfl (.inl rfl) (heard_gives T HF) TB2 rfl hmT2 hu2 hr9 (lamD_by (sc := defScope sLaw) (N := NL) (by decide +kernel)) rfl rfl rfl (by rfl) (fun _ _ _ _ _ _ _ _ => ⟨_, rfl, rfl⟩)
          (fun A outer s H E f c' hr2 => pe_call GT hr2 (by rfl) gT kT bT .nil (passes_call (takes_of rfl rfl rfl rfl) fun _ _ _ _ z => z) (pa_cons (pv 7) pa_nil))) pa_nil)))))
    (pss_one (ps_ret (pe_cmpR (op_eqD hr.units) (pv 5) (pe_lst (pa_cons (pe_tup (pa_cons pe_str (pa_cons pe_str pa_nil))) (pa_cons (pe_tup (pa_cons pe_str (pa_cons pe_str pa_nil))) (pa_cons (pe_tup (pa_cons pe_str (pa_cons pe_str pa_nil))) (pa_cons (pe_tup (pa_cons pe_str (pa_cons pe_str pa_nil))) (pa_cons (pe_tup (pa_cons pe_str (pa_cons pe_str pa_nil))) pa_nil)))))) (nomark _)))))))), ?_⟩
  refine ⟨_, rfl, a, ns, rfl, hS, hlen, fun wf H1 sm1 nwf w1 => ?_⟩
  have hT1 := Tabs.same hT sm1
  refine ⟨3, rfl, by decide, by decide, for_range (n := 3) (fun i σ H2 => ∃ v2 v3 v4 : Option V, σ = [some (.ref a), some (.ref wf), v2, v3, v4, none, none, none] ∧ WeftAt H2 wf (2158 * i) ∧ Tabs TT0 H2) ⟨none, none, none, rfl, w1, hT1⟩ ?_ ?_⟩
  · rintro i σ H2 hi ⟨v2, v3, v4, rfl, w2, T2⟩
    refine ⟨_, rfl, _, rfl, _, rfl, wf, 3, _, rfl, w2, by decide, by decide, by omega, fun r H3 r0 r1 sm3 w3 _ => ?_⟩
    refine ⟨wf, r, _, rfl, w3, r0, by omega, by omega, fun l ts H4 ht hl f4 e4 sm4 w4 => ?_⟩
    refine ⟨wf, l, ts, _, rfl, w4, e4, ht, hl, by omega, fun l1 t1 H5 ht1 hl1 e5 sm5 w5 => ?_⟩
    have n1 := w5.ne e5
    refine ⟨_, rfl, _, rfl, wf, 1, _, rfl, w5, by decide, by decide, by omega, fun lA tA H6 htA hlA fA eA sm6 w6 => ?_⟩
    have nA := w6.ne eA
    refine ⟨_, rfl, _, rfl, wf, 0, _, rfl, w6, by decide, by decide, by omega, fun lB tB H7 htB hlB fB eB sm7 w7 => ?_⟩
    have nB := w7.ne eB
    refine ⟨by show 1 ≤ sizeLine; decide, fun p hp => ⟨p, 0, _, rfl, rfl, upd_same, by decide, by decide, by show 0 ≤ sizeLine; decide, fun p2 hp2 => ?_⟩⟩
    have w7' := (w7.upd (o := .lst [V.str "not"]) hp).upd (o := .lst (List.replicate (0 : Int).toNat [V.str "not"]).flatten) hp2
    have sm7' := ((SameW.refl wf H7).upd (o := .lst [V.str "not"]) hp).upd (o := .lst (List.replicate (0 : Int).toNat [V.str "not"]).flatten) hp2
    have ep2 : (upd (upd H7 p (.lst [V.str "not"])) p2 (.lst (List.replicate (0 : Int).toNat [V.str "not"]).flatten)) p2 = some (.lst []) := upd_same
    have np2 : p2 ≠ wf := (w7.upd (o := .lst [V.str "not"]) hp).neN hp2
    refine ⟨_, rfl, wf, 2, _, rfl, w7', by decide, by decide, by omega, fun lC tC H8 htC hlC fC eC sm8 w8 => ?_⟩
    refine ⟨p2, lC, [], _, rfl, rfl, sm8 _ _ ep2 np2, eC, by simp; exact Nat.le_trans hlC (by decide), fun lD hD => ?_⟩
    refine ⟨by show 4 ≤ sizeLine; decide, fun ll hll => ?_⟩
    have w8' := (w8.upd (o := .lst ([] ++ itemsV tC)) hD)
    have nl := w8'.neN hll
    refine ⟨wf, ll, _, _, rfl, w8'.upd hll, upd_same, nl, by show 0 < 4; decide, by show 4 < 1000; decide, by omega, fun v H9 hv sm9 w9 => ?_⟩
    have smD := ((SameW.refl wf H8).upd (o := .lst ([] ++ itemsV tC)) hD).upd (o := .lst [V.ref lA, V.ref l1, V.ref lB, V.ref lD]) hll
    have sm79 := ((sm7'.trans sm8).trans smD).trans sm9
    have sm69 := sm7.trans sm79
    have sm59 := sm6.trans sm69
    have eD : (upd (upd H8 lD (.lst ([] ++ itemsV tC))) ll (.lst [V.ref lA, V.ref l1, V.ref lB, V.ref lD])) lD = some (.lst (itemsV tC)) := by
      rw [upd_ne (ne_of_none upd_same hll), upd_same]
      rfl
    have hv2 : ∃ lo to, v = .ref lo ∧ H9 lo = some (.lst (itemsV to)) ∧ TruthT 2 to ∧ to.length ≤ 40 := by
      simp only [List.mem_cons, List.not_mem_nil, or_false] at hv
      rcases hv with rfl | rfl | rfl | rfl
      · exact ⟨lA, tA, rfl, sm69 _ _ eA nA, htA, hlA⟩
      · exact ⟨l1, t1, rfl, sm59 _ _ e5 n1, ht1, hl1⟩
      · exact ⟨lB, tB, rfl, sm79 _ _ eB nB, htB, hlB⟩
      · exact ⟨lD, tC, rfl, sm9 _ _ eD (w8.neN hD), htC, hlC⟩
    obtain ⟨lo, to, rfl, eo, hto, hlo⟩ := hv2
    have sm29 := ((sm3.trans sm4).trans sm5).trans sm59
    have T9 := Tabs.sameW T2 w2 sm29
    refine ⟨_, rfl, _, rfl, _, rfl, wf, l1, lo, t1, to, _, rfl, w9, sm59 _ _ e5 n1, eo, ht1, hto, hl1, hlo, by omega, T9, fun H10 w10 T10 => ?_⟩
    refine ⟨true, rfl, iteF ⟨_, _, _, rfl, w10.mono (by omega), T10⟩⟩
  · rintro σ H2 ⟨v2, v3, v4, rfl, w2, T2⟩
    refine fun pf dxf npf ndf _ => ?_
    refine ⟨pf, dxf, [.a, .n, .op .eq], congrArg (fun z => [V.ref pf, V.str z]) fine_txt.symm, upd_same, ⟨fun t ht => by
      simp only [List.mem_cons, List.not_mem_nil, or_false] at ht
      rcases ht with rfl | rfl | rfl <;> trivial, by simp, by decide⟩, by decide, fine_run, fun H3 kp3 z3 => ⟨rfl, ?_⟩⟩
    have sm3 : Same H2 H3 := fun b o e => by
      have nb := ne_of_none e npf
      exact kp3 b o (by rw [upd_ne nb, upd_ne (ne_of_none e ndf)]; exact e) nb
    have w3 := w2.same sm3
    refine ⟨_, rfl, by show 3 ≤ sizeLine; decide, fun ll hll => ?_⟩
    have nll := w3.neN hll
    refine ⟨by show 5 ≤ sizeLine; decide, fun lx hlx => ?_⟩
    have w4 := (w3.upd (o := .lst [V.str "a", V.str "n", V.str "="]) hll)
    have e4 : (upd (upd H3 ll (.lst [V.str "a", V.str "n", V.str "="])) lx (.lst [V.non, V.int 5, V.str "a n =", V.ref ll, V.bl true])) ll = some (.lst [V.str "a", V.str "n", V.str "="]) := by
      rw [upd_ne (ne_of_none upd_same hlx), upd_same]
    have sm4 : SameW wf H3 (upd (upd H3 ll (.lst [V.str "a", V.str "n", V.str "="])) lx (.lst [V.non, V.int 5, V.str "a n =", V.ref ll, V.bl true])) := ((SameW.refl wf H3).upd hll).upd hlx
    refine ⟨wf, lx, _, _, rfl, w4.upd hlx, upd_same, w4.neN hlx, by show 0 < 5; decide, by show 5 < 1000; decide, by decide, fun v H5 hv sm5 w5 => ?_⟩
    have z5 : PzAt C H5 pf [.a, .n, .op .eq] := z3.sameW w3 (sm4.trans sm5)
    have T5 := Tabs.sameW (Tabs.same T2 sm3) w3 (sm4.trans sm5)
    have b5 : BadV H5 v := by
      simp only [List.mem_cons, List.not_mem_nil, or_false] at hv
      rcases hv with rfl | rfl | rfl | rfl | rfl
      · exact .inl rfl
      · exact .inr (.inl rfl)
      · exact .inr (.inr (.inl rfl))
      · exact .inr (.inr (.inr (.inl ⟨ll, rfl, sm5 _ _ e4 nll⟩)))
      · exact .inr (.inr (.inr (.inr rfl)))
    refine ⟨by show 2 ≤ sizeLine; decide, fun tp htp => ⟨tp, _, rfl, SqT.of upd_same, rfl, _, _, rfl, _, _, rfl, rfl, ?_⟩⟩
    have sm6 := upS H5 tp (.tup [V.ref pf, v]) htp
    have z6 := z5.same sm6
    have T6 := Tabs.same T5 sm6
    have b6 := b5.ext (ExtN.of sm6)
    -- one
    refine ⟨T6, fun I1 x1 U1 Qn => ⟨_, rfl, _, rfl, v, v, rfl, .inl ⟨(b6.ext x1).no IP, fun d I2 y1 hd hdd => .inr ⟨rfl, d, _, rfl, hdd, fun ta H7 y2 hta ea7 => ?_⟩⟩⟩⟩
    have x7 := ext2 x1 y1 y2
    have T7 := Tabs.same (Tabs.same U1 y1) y2
    clear hdd hd hta
    -- two
    refine ⟨T7, fun I1 x1 U1 Qn => ⟨_, rfl, _, rfl, .ref pf, v, rfl, .inr (.inl ⟨⟨pf, _, rfl, (z6.ext x7).ext x1⟩, ((b6.ext x7).ext x1).no IP, fun d I2 y1 hd hdd => .inr ⟨rfl, d, _, rfl, hdd, fun tb H8 y2 hta eb8 => ?_⟩⟩)⟩⟩
    have x78 := ext2 x1 y1 y2
    have x8 := x7.trans x78
    have ea8 := x78 _ _ ea7 tup_tbl
    have T8 := Tabs.same (Tabs.same U1 y1) y2
    clear hdd hd hta
    -- three
    refine ⟨T8, fun I1 x1 U1 Qn => ⟨_, rfl, _, rfl, v, .ref pf, rfl, .inl ⟨((b6.ext x8).ext x1).no IP, fun d I2 y1 hd hdd => .inr ⟨rfl, d, _, rfl, hdd, fun tc H9 y2 hta ec9 => ?_⟩⟩⟩⟩
    have x89 := ext2 x1 y1 y2
    have x9 := x8.trans x89
    have ea9 := x89 _ _ ea8 tup_tbl
    have eb9 := x89 _ _ eb8 tup_tbl
    have T9 := Tabs.same (Tabs.same U1 y1) y2
    clear hdd hd hta
    refine ⟨by show 3 ≤ sizeLine; decide, fun la hla => ?_⟩
    have sm10 := upS H9 la (.lst [V.ref ta, V.ref tb, V.ref tc]) hla
    have el10 := upd_same (H := H9) (a := la) (o := .lst [V.ref ta, V.ref tb, V.ref tc])
    have x10 := x9.trans (ExtN.of sm10)
    have ea10 := sm10 _ _ ea9
    have eb10 := sm10 _ _ eb9
    have ec10 := sm10 _ _ ec9
    have T10 := Tabs.same T9 sm10
    -- four
    refine ⟨_, rfl, T10, fun I1 x1 U1 Qn => ⟨_, rfl, _, rfl, .ref pf, v, rfl, .inr (.inl ⟨⟨pf, _, rfl, (z6.ext x10).ext x1⟩, ((b6.ext x10).ext x1).no IP, fun d I2 y1 hd hdd => .inr ⟨rfl, d, _, rfl, hdd, fun td H11 y2 hta ed11 => ?_⟩⟩)⟩⟩
    have x1011 := ext2 x1 y1 y2
    have x11 := x10.trans x1011
    have ea11 := x1011 _ _ ea10 tup_tbl
    have eb11 := x1011 _ _ eb10 tup_tbl
    have ec11 := x1011 _ _ ec10 tup_tbl
    have el11 := x1011 _ _ el10 lst_tbl
    have T11 := Tabs.same (Tabs.same U1 y1) y2
    clear hdd hd hta
    -- five
    refine ⟨T11, fun I1 x1 U1 Qn => ⟨_, rfl, v, rfl, .inl ⟨((b6.ext x11).ext x1).no IP, fun d I2 y1 hd hdd => .inr ⟨rfl, d, _, rfl, hdd, fun te H12 y2 hta ee12 => ?_⟩⟩⟩⟩
    have x1112 := ext2 x1 y1 y2
    have ea12 := x1112 _ _ ea11 tup_tbl
    have eb12 := x1112 _ _ eb11 tup_tbl
    have ec12 := x1112 _ _ ec11 tup_tbl
    have ed12 := x1112 _ _ ed11 tup_tbl
    have el12 := x1112 _ _ el11 lst_tbl
    clear hdd hd hta
    refine ⟨by show 2 ≤ sizeLine; decide, fun lb hlb => ?_⟩
    have sm13 := upS H12 lb (.lst [V.ref td, V.ref te]) hlb
    refine ⟨la, lb, _, _, rfl, rfl, sm13 _ _ el12, upd_same, by show 5 ≤ sizeLine; decide, fun lc hlc => ?_⟩
    have sm14 := upS _ lc (.lst ([V.ref ta, V.ref tb, V.ref tc] ++ [V.ref td, V.ref te])) hlc
    have el14 : (upd (upd H12 lb (.lst [V.ref td, V.ref te])) lc (.lst ([V.ref ta, V.ref tb, V.ref tc] ++ [V.ref td, V.ref te]))) lc = some (.lst [V.ref ta, V.ref tb, V.ref tc, V.ref td, V.ref te]) := upd_same
    have smE := sm13.trans sm14
    -- the five pairs
    refine ⟨_, rfl, by show 2 ≤ sizeLine; decide, fun p1 q1 => ⟨by show 2 ≤ sizeLine; decide, fun p2 q2 => ⟨by show 2 ≤ sizeLine; decide, fun p3 q3 => ⟨by show 2 ≤ sizeLine; decide, fun p4 q4 => ⟨by show 2 ≤ sizeLine; decide, fun p5 q5 => ⟨by show 5 ≤ sizeLine; decide, fun p6 q6 => ?_⟩⟩⟩⟩⟩⟩
    have s1 := upS _ p1 (.tup [V.str "BadPuzzle", V.str "one"]) q1
    have s2 := upS _ p2 (.tup [V.str "BadPuzzle", V.str "other"]) q2
    have s3 := upS _ p3 (.tup [V.str "BadPuzzle", V.str "one"]) q3
    have s4 := upS _ p4 (.tup [V.str "BadPuzzle", V.str "other"]) q4
    have s5 := upS _ p5 (.tup [V.str "BadPuzzle", V.str "puzzle"]) q5
    have s6 := upS _ p6 (.lst [V.ref p1, V.ref p2, V.ref p3, V.ref p4, V.ref p5]) q6
    have t56 := s5.trans s6
    have t46 := s4.trans t56
    have t36 := s3.trans t46
    have t26 := s2.trans t36
    have t16 := s1.trans t26
    have tE := smE.trans t16
    refine ⟨.list [dBad "one", dBad "other", dBad "one", dBad "other", dBad "puzzle"], .list [dBad "one", dBad "other", dBad "one", dBad "other", dBad "puzzle"],
      .lst (SqL.of (t16 _ _ el14)) (.cons (dpBad (tE _ _ ea12)) (.cons (dpBad (tE _ _ eb12)) (.cons (dpBad (tE _ _ ec12)) (.cons (dpBad (tE _ _ ed12)) (.cons (dpBad (tE _ _ ee12)) .nil))))),
      .lst (SqL.of upd_same) (.cons (dpBad (t26 _ _ upd_same)) (.cons (dpBad (t36 _ _ upd_same)) (.cons (dpBad (t46 _ _ upd_same)) (.cons (dpBad (t56 _ _ upd_same)) (.cons (dpBad (s6 _ _ upd_same)) .nil))))), by decide +kernel, by decide +kernel, ?_⟩
    have e : PyData.eqv (.list [dBad "one", dBad "other", dBad "one", dBad "other", dBad "puzzle"]) (.list [dBad "one", dBad "other", dBad "one", dBad "other", dBad "puzzle"]) = true := by decide +kernel
    rw [e]
    exact q _
end
end Dt

set_option Elab.async false
set_option linter.all false
set_option maxRecDepth 100000
set_option maxHeartbeats 2000000
/-! What the end leans on of the top: deciders over the written part, and the hook that reads them. -/
namespace Dt
open PySem PySem.Spec PyProof.Rows L2 DtR
open He (ba ga ma fAd relB relAll relB_ok relAll_ok eqO eqO_ok codeOf)
/-! ### own exceptions -/
def oexCls (K : PySem.W.Frag) (C : Addr) : Bool := match K.lookup C with
  | some ⟨.type c, _, .cls cd, sl⟩ => (match cd.mro, sl.toList with
    | .ref D :: bm, [_, _, _, _, some (.builtin n), _] => decide (c = "type") && (decide (D = C) && (decide (n = "ValueError.__new__") && (!cd.hasDel && (cd.hasDict && PySem.HandSPX.refsVE bm))))
    | _, _ => false)
  | _ => false
def oexB (K : PySem.W.Frag) (C : Addr) : Bool := oexCls K C && (eqO (PySem.W.findIn K (.ref C) "__setattr__") (some (some (.builtin "object.__setattr__"))) && (decide (PySem.W.subIn K (.ref C) (.type "BaseException") = some true) && (decide (PySem.W.typeIn K (.ref C) = some (.type "type")) && PySem.W.keepIn K (.ref C))))
theorem oexB_ok {K : PySem.W.Frag} {C : Addr} (h : oexB K C = true) : OexC K C := by
  obtain ⟨h1, h⟩ := ba h
  obtain ⟨h2, h⟩ := ba h
  obtain ⟨h3, h⟩ := ba h
  obtain ⟨h4, h5⟩ := ba h
  refine ⟨?_, eqO_ok h2, of_decide_eq_true h3, of_decide_eq_true h4, h5⟩
  unfold oexCls at h1
  split at h1
  · rename_i c dd cd sl ho
    split at h1
    · rename_i D bm k0 k1 k2 k3 n k5 hm hs
      obtain ⟨e1, h1⟩ := ba h1
      obtain ⟨e2, h1⟩ := ba h1
      obtain ⟨e3, h1⟩ := ba h1
      obtain ⟨e4, h1⟩ := ba h1
      obtain ⟨e5, e6⟩ := ba h1
      have e1 := of_decide_eq_true e1
      have e2 := of_decide_eq_true e2
      have e3 := of_decide_eq_true e3
      subst e1 e2 e3
      obtain ⟨nm, bs, mro, ns, qn, hd, sn, sub, ab, col, del⟩ := cd
      dsimp only at hm e4 e5
      subst hm
      have e5 : hd = true := e5
      have e4 : del = false := by simpa using e4
      subst e5 e4
      have hsl : sl = #[k0, k1, k2, k3, some (.builtin "ValueError.__new__"), k5] := by
        rw [← Array.toList_inj, hs]
      rw [hsl] at ho
      exact ⟨_, _, _, _, _, _, _, _, _, _, _, _, _, _, _, ho, e6⟩
    · cases h1
  · cases h1
/-! ### an __init__ that leans on its class's cell -/
abbrev ClV : Type := Option (Str × Str × Arguments × FuncBody × Scope × Addr × List Str × Addr)
def clW (K : PySem.W.Frag) (p : He.Defn) : ClV := match K.lookup (fAd K p) with
  | some ⟨_, _, .func fd, _⟩ => some (fd.name, fd.qualname, fd.params, fd.body, fd.scope, fd.globals, fd.closure.map (·.1), fd.builtins)
  | _ => none
structure ClD where
  at_ : He.Defn
  name : Str
  qual : Str
  params : Arguments
  body : List Stmt
  scope : Scope
def ClD.val (d : ClD) : ClV := some (d.name, d.qual, d.params, .stmts d.body, d.scope, mainGlobals, ["__class__"], builtinsNs)
def noneB : Value → Bool
  | .none => true
  | _ => false
theorem noneB_ok {v : Value} (h : noneB v = true) : v = .none := by
  cases v <;> first | rfl | cases h
def cellB (K : PySem.W.Frag) (cc C : Addr) : Bool := match K.lookup cc with
  | some ⟨_, _, .cell (some (.ref D)), _⟩ => decide (D = C)
  | _ => false
def fileB (K : PySem.W.Frag) (cda : Addr) (file : Str) : Bool := match K.lookup cda with
  | some ⟨_, _, .fields vs, _⟩ => (match (vs[2]? : Option Value) with
    | some (Value.str f _) => file == f
    | _ => false)
  | _ => false
def clMatch (K : PySem.W.Frag) (qual : Str) (C : Addr) (file : Str) (code dfl : Value) (clo : List (Str × Addr)) : Bool := match code, clo with
  | .ref cda, [(_, cc)] => noneB dfl && (PySem.W.codeIn K (.ref cda) qual && (cellB K cc C && fileB K cda file))
  | _, _ => false
/-- the def's record: defaults none, code object, cell -/
def clB (K : PySem.W.Frag) (d : ClD) (C : Addr) (file : Str) : Bool := match K.lookup (fAd K d.at_) with
  | some ⟨_, _, .func fd, _⟩ => clMatch K d.qual C file fd.code fd.defaults fd.closure
  | _ => false
theorem clB_ok {K : PySem.W.Frag} {d : ClD} {C : Addr} {file : Str} (e : clW K d.at_ = d.val) (h : clB K d C file = true) :
    ∃ (cc cda : Addr) (kV doc pm ct : Value) (an : Option Addr) (oc : Value) (od : Option Addr) (osl : Array (Option Value)), K.lookup (fAd K d.at_) = some ⟨oc, od, .func (PySem.W.ksFn d.name d.qual d.params d.body d.scope .none kV doc pm an (.ref cda) ct cc), osl⟩ ∧
      PySem.W.codeIn K (.ref cda) d.qual = true ∧ (∃ cl cld csl, K.lookup cc = some ⟨cl, cld, .cell (some (.ref C)), csl⟩) ∧ ∃ ccl cdd vs ccs f tf, K.lookup cda = some ⟨ccl, cdd, .fields vs, ccs⟩ ∧ vs[2]? = some (.str f tf) ∧ (file == f) = true := by
  unfold clW at e
  unfold clB at h
  cases q : K.lookup (fAd K d.at_) with
  | none =>
    rw [q] at h
    cases h
  | some o =>
    obtain ⟨oc, od, dt, osl⟩ := o
    rw [q] at h e
    cases dt with
    | func fd =>
      obtain ⟨n1, n2, n3, n4, n5, n6, n7, n8, n9, n10, n11, n12, n13, n14, n15⟩ := fd
      have e2 : (some (n1, n2, n3, n4, n5, n6, n7.map (·.1), n15) : ClV) = some (d.name, d.qual, d.params, FuncBody.stmts d.body, d.scope, mainGlobals, [Str.ofString "__class__"], builtinsNs) := e
      simp only [Option.some.injEq, Prod.mk.injEq] at e2
      obtain ⟨h1, h2, h3, h4, h5, h6, h7, h8⟩ := e2
      subst h1 h2 h3 h4 h5 h6 h8
      have h9 : clMatch K d.qual C file n13 n8 n7 = true := h
      unfold clMatch at h9
      split at h9
      · rename_i x1 x2 cda x cc
        obtain ⟨g1, h9⟩ := ba h9
        obtain ⟨g2, h9⟩ := ba h9
        obtain ⟨g3, g4⟩ := ba h9
        have g1 := noneB_ok g1
        subst g1
        have hx : x = Str.ofString "__class__" := by simpa using h7
        subst hx
        refine ⟨cc, cda, n9, n10, n11, n14, n12, oc, od, osl, rfl, g2, ?_, ?_⟩
        · unfold cellB at g3
          split at g3
          · rename_i c1 c2 D c3 ho
            have eD := of_decide_eq_true g3
            subst eD
            exact ⟨_, _, _, ho⟩
          · cases g3
        · unfold fileB at g4
          split at g4
          · rename_i c1 c2 vs c3 ho
            split at g4
            · rename_i f tf hv
              exact ⟨_, _, _, _, _, _, ho, hv, g4⟩
            · cases g4
          · cases g4
      · cases h9
    | _ => cases h
/-! ### the table of items -/
def tupOf (K : PySem.W.Frag) (a : Addr) : Option (List Value) := match K.lookup a with
  | some ⟨.type c, _, .seq its _, _⟩ => (match decide (c = "tuple") && decide (its.size ≤ sizeLine) with
    | true => some its.toList
    | false => none)
  | _ => none
theorem tupOf_ok {K : PySem.W.Frag} {a : Addr} {us : List Value} {vs : List V} (h : tupOf K a = some us) (r : Vals vs us) : KT K a vs := by
  unfold tupOf at h
  split at h
  · rename_i c d its n sl ho
    split at h
    · rename_i hb
      obtain ⟨b1, b2⟩ := ba hb
      have e := of_decide_eq_true b1
      subst e
      have eu := Option.some.inj h
      subst eu
      exact ⟨_, its, _, ho, rfl, rfl, of_decide_eq_true b2, r⟩
    · cases h
  · cases h
def deedB (K : PySem.W.Frag) (D : Addr) (z : Str) (tk : List V) (mk : V) : Bool := match PySem.W.nsIn K D z with
  | some (some (.ref pa)) => (match tupOf K pa with
    | some [.ref ta, u] => relB mk u && (match tupOf K ta with
      | some us => relAll tk us
      | none => false)
    | _ => false)
  | _ => false
theorem deedB_ok {K : PySem.W.Frag} {D : Addr} {z : Str} {tk : List V} {mk : V} (h : deedB K D z tk mk = true) : ∃ pa ta, PySem.W.nsIn K D z = some (some (.ref pa)) ∧ KT K pa [.ref ta, mk] ∧ KT K ta tk := by
  unfold deedB at h
  split at h
  · rename_i pa hn
    split at h
    · rename_i ta u h1
      obtain ⟨h2, h3⟩ := ba h
      split at h3
      · rename_i us h4
        exact ⟨pa, ta, hn, tupOf_ok h1 (.cons rfl (.cons (relB_ok h2) .nil)), tupOf_ok h4 (relAll_ok h3)⟩
      · cases h3
    · cases h
  · cases h
def opsAll : List Op := [.add, .sub, .mul, .rem, .eq, .lt, .and, .or]
def deedsB (K : PySem.W.Frag) (D : Addr) : Bool := (opsAll.all fun o => deedB K D o.txt [o.takes.v, o.takes.v] o.makes.v) && (deedB K D "not" [Kd.tru.v] Kd.tru.v && (eqO (PySem.W.nsIn K D "a") (some none) && (eqO (PySem.W.nsIn K D "n") (some none) && (List.range 91).all fun i => eqO (PySem.W.nsIn K D (numT ((i : Int) - 45))) (some none))))
theorem deedsB_ok {K : PySem.W.Frag} {w : World} {mg : Str → Option Value} {D : Addr} {es : Array DictEntry} {n : Nat} (h : deedsB K D = true) (m : mg "DEEDS" = some (.ref D)) (kd : KDict K w D es n) : DeedG K w mg := by
  obtain ⟨h1, h⟩ := ba h
  obtain ⟨h2, h⟩ := ba h
  obtain ⟨h3, h⟩ := ba h
  obtain ⟨h4, h5⟩ := ba h
  refine ⟨D, es, n, m, kd, fun o => deedB_ok (List.all_eq_true.mp h1 o (by cases o <;> simp [opsAll])), deedB_ok h2, eqO_ok h3, eqO_ok h4, fun k k1 k2 => ?_⟩
  have h6 := List.all_eq_true.mp h5 (k + 45).toNat (List.mem_range.mpr (by omega))
  have e : (((k + 45).toNat : Nat) : Int) - 45 = k := by omega
  rw [e] at h6
  exact eqO_ok h6
/-! ### the hook: as HandS.HeadHook4's, the module of statics looked at too, and the defs with a cell -/
section
variable (n : Nat) (fa : List He.Fa) (fn : List He.DefD) (ts : List He.Tab) (tf : List He.Defn) (ex : PySem.W.Frag → Bool) (cl : List ClD)
def asY (g : Addr → Option Obj) : List Addr := cStatics :: He.asD g n
abbrev AlY : Type := (He.AlT × Bool) × List ClV
def obsY (g : Addr → Option Obj) : AlY := ((He.obsT fa fn ts (He.frT g (asY n g)), ex (He.frT g (asY n g)) && He.tabsB g tf (He.frT g (asY n g))), cl.map fun d => clW (He.frT g (asY n g)) d.at_)
def valY (w : World) : AlY := ((He.valT fn ts w, true), cl.map ClD.val)
structure SaysY (w : World) (h : Heap) (K : PySem.W.Frag) : Prop where
  x : He.SaysX fa fn ts tf ex w h K
  c : (cl.map fun d => clW K d.at_) = cl.map ClD.val
end
section
variable {n : Nat} {fa : List He.Fa} {fn : List He.DefD} {ts : List He.Tab} {tf : List He.Defn} {ex : PySem.W.Frag → Bool} {cl : List ClD}
theorem saysY_of {w : World} {h : Heap} (e : obsY n fa fn ts tf ex cl h.get? = valY fn ts cl w) : SaysY fa fn ts tf ex cl w h (He.frT h.get? (asY n h.get?)) := by
  have e0 := congrArg (fun z : AlY => z.1) e
  have e1 : He.obsT fa fn ts (He.frT h.get? (asY n h.get?)) = He.valT fn ts w := congrArg (fun z : He.AlT × Bool => z.1) e0
  have e2 : (ex (He.frT h.get? (asY n h.get?)) && He.tabsB h.get? tf (He.frT h.get? (asY n h.get?))) = true := congrArg (fun z : He.AlT × Bool => z.2) e0
  obtain ⟨h1, h2⟩ := ba e2
  have key : ∀ p ∈ tf, PySem.W.codeHdIn (He.frT h.get? (asY n h.get?)) (He.cT (He.frT h.get? (asY n h.get?)) p).1 (He.cT (He.frT h.get? (asY n h.get?)) p).2 = true ∧ ∃ o, h.get? (He.cT (He.frT h.get? (asY n h.get?)) p).2 = some o ∧ He.emptyTab o = true := fun p hp => by
    obtain ⟨h3, h4⟩ := ba (List.all_eq_true.mp h2 p hp)
    refine ⟨h3, ?_⟩
    split at h4
    · rename_i o ho
      exact ⟨o, ho, h4⟩
    · cases h4
  refine ⟨⟨e1, h1, fun p hp => (key p hp).1, fun p hp => ?_, fun p hp => ?_⟩, congrArg (fun z : AlY => z.2) e⟩
  · obtain ⟨_, o, q, z⟩ := key p hp
    exact He.frT_none q z
  · obtain ⟨_, o, q, z⟩ := key p hp
    rw [q, He.emptyTab_eq z]
end
def hookY (n : Nat) (fa : List He.Fa) (fn : List He.DefD) (ts : List He.Tab) (tf : List He.Defn) (ex : PySem.W.Frag → Bool) (cl : List ClD) : PySem.W.Hook where
  α := AlY
  obs := fun s => obsY n fa fn ts tf ex cl s.heap.get?
  val := fun w => valY fn ts cl w
  says := fun w h => ∃ K : PySem.W.Frag, K.In h ∧ SaysY fa fn ts tf ex cl w h K
  of := fun _ _ e => ⟨_, He.frT_in, saysY_of e⟩
  keeps := fun _ _ _ ⟨K, hK, c⟩ k => ⟨K, PySem.W.Frag.In.keeps hK k, ⟨⟨c.x.t, c.x.more, c.x.hd, c.x.out, fun p hp => k _ _ (c.x.empty p hp)⟩, c.c⟩⟩
theorem obsY_eq {n : Nat} {fa : List He.Fa} {fn : List He.DefD} {ts : List He.Tab} {tf : List He.Defn} {ex : PySem.W.Frag → Bool} {cl : List ClD} {g : Addr → Option Obj} {s : Shared} (h : ∀ a, g a = s.heap.get? a) : obsY n fa fn ts tf ex cl g = (hookY n fa fn ts tf ex cl).obs s := by
  have e : g = s.heap.get? := funext h
  rw [e] <;> rfl
end Dt

set_option Elab.async false
set_option linter.all false
set_option maxRecDepth 100000
set_option maxHeartbeats 0
namespace Dt
open PySem PySem.Spec PyProof.Rows L2 DtR
abbrev RR : PySem.W.OpenRow := PySem.W.OpenLaw.row PySem.Challenge.rw_duetickers_k28_whole_puzzles_joined
abbrev PP : Program := PySem.Challenge.rw_duetickers_k28_whole_puzzles_joined.prog
def fa0 : List He.Fa := [.glo "TickError", .glo "BadPuzzle", .glo "TooMany", .glo "Scan", .glo "Puzzle", .glo "DEEDS", .glo "is_integer", .glo "is_within", .glo "need_number", .glo "written", .glo "kinds_behind", .glo "rest_of", .glo "made_of", .glo "pile_behind", .glo "piles_along", .glo "right_for", .glo "joined", .glo "need_puzzle", .glo "need_both", .glo "is_right"]
def fa1 : List He.Fa := [.glo "both_of", .glo "either_of", .glo "turned_of", .glo "_law_weft", .glo "_law_throw", .glo "_law_one", .glo "_law_heard", .glo "_law_count", .glo "_law_truth", .glo "_law_check", .glo "_law_rest", .glo "_law_behind", .glo "_law_piles", .glo "_law_is_right", .glo "_law_long", .glo "_law_joined_right", .glo "law", .free "isinstance", .free "int", .free "bool"]
def fa2 : List He.Fa := [.free "str", .free "len", .free "all", .free "abs", .free "max", .free "tuple", .free "repr", .free "range", .free "super", .int "MOST_FIGURES" 140, .int "MOST_ITEMS" 40, .int "MOST_PILE" 20, .int "MOST_NUMBER" (10 ^ 18), .str "FIGURES" "0123456789", .str "NUMBER" "number", .str "TRUTH" "truth", .str "ANSWER" "a", .str "GIVEN" "n", .cls "Scan", .cls "Puzzle"]
def fa3 : List He.Fa := [.noat "Scan" "words", .noat "Scan" "at", .noat "Puzzle" "text", .noat "Puzzle" "check", .noat "Puzzle" "cost", .meth "Scan" "ahead", .meth "Scan" "take", .mkr "Scan", .mkr "Puzzle", .exm "BadPuzzle" "TickError" true, .exm "TooMany" "TickError" true]
def fa : List He.Fa := fa0 ++ (fa1 ++ (fa2 ++ (fa3)))
def fn0 : List He.DefD := [⟨("is_integer", none), "is_integer", "is_integer", defArgs sIsInt, defBody sIsInt, defScope sIsInt, [], []⟩, ⟨("is_within", none), "is_within", "is_within", defArgs sWithin, defBody sWithin, defScope sWithin, [], []⟩, ⟨("need_number", none), "need_number", "need_number", defArgs sNeedNum, defBody sNeedNum, defScope sNeedNum, [], []⟩, ⟨("written", none), "written", "written", defArgs sWritten, defBody sWritten, defScope sWritten, [], []⟩, ⟨("kinds_behind", none), "kinds_behind", "kinds_behind", defArgs sKinds, defBody sKinds, defScope sKinds, [], []⟩, ⟨("rest_of", none), "rest_of", "rest_of", defArgs sRestOf, defBody sRestOf, defScope sRestOf, [], []⟩, ⟨("made_of", none), "made_of", "made_of", defArgs sMade, defBody sMade, defScope sMade, [], []⟩, ⟨("pile_behind", none), "pile_behind", "pile_behind", defArgs sPile, defBody sPile, defScope sPile, [], []⟩, ⟨("piles_along", none), "piles_along", "piles_along", defArgs sAlong, defBody sAlong, defScope sAlong, [], []⟩, ⟨("right_for", none), "right_for", "right_for", defArgs sRight, defBody sRight, defScope sRight, [], []⟩, ⟨("joined", none), "joined", "joined", defArgs sJoined, defBody sJoined, defScope sJoined, [], []⟩, ⟨("need_puzzle", none), "need_puzzle", "need_puzzle", defArgs sNeedP, defBody sNeedP, defScope sNeedP, [.str "puzzle"], []⟩, ⟨("need_both", none), "need_both", "need_both", defArgs sNeedB, defBody sNeedB, defScope sNeedB, [], []⟩, ⟨("is_right", none), "is_right", "is_right", defArgs sIsRight, defBody sIsRight, defScope sIsRight, [], []⟩, ⟨("both_of", none), "both_of", "both_of", defArgs sBoth, defBody sBoth, defScope sBoth, [], []⟩, ⟨("either_of", none), "either_of", "either_of", defArgs sEither, defBody sEither, defScope sEither, [], []⟩, ⟨("turned_of", none), "turned_of", "turned_of", defArgs sTurned, defBody sTurned, defScope sTurned, [], []⟩, ⟨("_law_weft", none), "_law_weft", "_law_weft", defArgs sWeft, defBody sWeft, defScope sWeft, [], []⟩, ⟨("_law_throw", none), "_law_throw", "_law_throw", defArgs sThrow, defBody sThrow, defScope sThrow, [], []⟩, ⟨("_law_one", none), "_law_one", "_law_one", defArgs sOne, defBody sOne, defScope sOne, [], []⟩]
def fn1 : List He.DefD := [⟨("_law_heard", none), "_law_heard", "_law_heard", defArgs sHeard, defBody sHeard, defScope sHeard, [], []⟩, ⟨("_law_count", none), "_law_count", "_law_count", defArgs sCount, defBody sCount, defScope sCount, [], []⟩, ⟨("_law_truth", none), "_law_truth", "_law_truth", defArgs sTruth, defBody sTruth, defScope sTruth, [], []⟩, ⟨("_law_check", none), "_law_check", "_law_check", defArgs sCheck, defBody sCheck, defScope sCheck, [], []⟩, ⟨("_law_rest", none), "_law_rest", "_law_rest", defArgs sRest, defBody sRest, defScope sRest, [], []⟩, ⟨("_law_behind", none), "_law_behind", "_law_behind", defArgs sBehind, defBody sBehind, defScope sBehind, [], []⟩, ⟨("_law_piles", none), "_law_piles", "_law_piles", defArgs sPiles, defBody sPiles, defScope sPiles, [], []⟩, ⟨("_law_is_right", none), "_law_is_right", "_law_is_right", defArgs sLIsR, defBody sLIsR, defScope sLIsR, [], []⟩, ⟨("_law_long", none), "_law_long", "_law_long", defArgs sLong, defBody sLong, defScope sLong, [], []⟩, ⟨("_law_joined_right", none), "_law_joined_right", "_law_joined_right", defArgs sJR, defBody sJR, defScope sJR, [], []⟩, ⟨("law", none), "law", "law", defArgs sLaw, defBody sLaw, defScope sLaw, [], []⟩, ⟨("Scan", some "__init__"), "__init__", "Scan.__init__", defArgs sScInit, defBody sScInit, defScope sScInit, [], []⟩, ⟨("Scan", some "ahead"), "ahead", "Scan.ahead", defArgs sScAhead, defBody sScAhead, defScope sScAhead, [], []⟩, ⟨("Scan", some "take"), "take", "Scan.take", defArgs sScTake, defBody sScTake, defScope sScTake, [], []⟩, ⟨("Puzzle", some "__init__"), "__init__", "Puzzle.__init__", defArgs sPzInit, defBody sPzInit, defScope sPzInit, [], []⟩]
def fn : List He.DefD := fn0 ++ (fn1)
def tabs : List He.Tab := [(fun K => He.ga K "DEEDS", ["+", "-", "*", "rem", "=", "<", "and", "or", "not"])]
def tf : List He.Defn := [("_law_joined_right", none), ("law", none)]
def dBP : ClD := ⟨("BadPuzzle", some "__init__"), "__init__", "BadPuzzle.__init__", defArgs sBPInit, defBody sBPInit, defScope sBPInit⟩
def dTM : ClD := ⟨("TooMany", some "__init__"), "__init__", "TooMany.__init__", defArgs sTMInit, defBody sTMInit, defScope sTMInit⟩
def cls2 : List ClD := [dBP, dTM]
/-- an own exception's class, as the law asks it -/
def xcB (K : PySem.W.Frag) (C f : Addr) : Bool := (PySem.W.clsIn K C).isSome && (He.eqO (PySem.W.findIn K (.ref C) "__getattribute__") (some (some (.builtin "BaseException.__getattribute__"))) && (He.eqO (PySem.W.findIn K (.ref C) "__getattr__") (some none) && (PySem.W.hasDictIn K C &&
  (He.eqO (PySem.W.findIn K (.ref C) "__class__") (some (some (.builtin "object.__class__"))) && (decide (PySem.W.mroIn K C (.type "object") = some true) && (decide (PySem.W.subIn K (.ref C) (.type "ValueError") = some true) && (He.eqO (PySem.W.ks_superIn K C C "__init__") (some (some (.builtin "ValueError.__init__"))) &&
  (decide (PySem.W.mroIn K C (.ref C) = some true) && (He.eqO (PySem.W.findIn K (.ref C) "__init__") (some (some (.ref f))) && decide (PySem.W.typeIn K (.ref f) = some (.type "function")))))))))))
def puzB (K : PySem.W.Frag) (C : Addr) : Bool := He.eqO (PySem.W.findIn K (.ref C) "__class__") (some (some (.builtin "object.__class__"))) && (decide (PySem.W.mroIn K C (.type "object") = some true) && (decide (PySem.W.kitOne K (.ref C) (.ref C) = some true) && (decide (PySem.W.kitOne K (.type "NoneType") (.ref C) = some false) &&
  (decide (PySem.W.kitOne K (.type "int") (.ref C) = some false) && (decide (PySem.W.kitOne K (.type "str") (.ref C) = some false) && (decide (PySem.W.kitOne K (.type "list") (.ref C) = some false) && decide (PySem.W.kitOne K (.type "bool") (.ref C) = some false)))))))
def excB (K : PySem.W.Frag) (CB CT fB fT : Addr) : Bool := oexB K CB && (oexB K CT && (clB K dBP CB PP.main.file && (clB K dTM CT PP.main.file && (xcB K CB fB && (xcB K CT fT && (He.eqO (PySem.W.nsIn K cStatics "thirdparty.any") (some none) &&
  (He.eqO (PySem.W.specialIn K (.builtin "object.__class__") "__get__") (some (some (.builtin "getset_descriptor.__get__"))) && (decide (PySem.W.takesIn K (.builtin "object.__class__") = some true) && (He.eqO (PySem.W.findIn K (.ref CB) "part") (some none) && (He.eqO (PySem.W.findIn K (.ref CT) "what") (some none) && (He.eqO (PySem.W.findIn K (.ref CT) "most") (some none) &&
  (decide (PySem.W.kitOne K (.ref CT) (.ref CT) = some true) && (decide (PySem.W.kitOne K (.ref CB) (.ref CT) = some false) && decide (PySem.W.kitOne K (.ref CB) (.ref CB) = some true))))))))))))))
def ex (K : PySem.W.Frag) : Bool := (!decide ((He.cT K ("_law_joined_right", none)).2 = (He.cT K ("law", none)).2)) && (deedsB K (He.ga K "DEEDS") && (puzB K (He.ga K "Puzzle") && excB K (He.ga K "BadPuzzle") (He.ga K "TooMany") (He.fAd K ("BadPuzzle", some "__init__")) (He.fAd K ("TooMany", some "__init__"))))
abbrev hk : PySem.W.Hook := hookY 5 fa fn tabs tf ex cls2
def ob (s : PySem.W.SharedT) : AlY := obsY 5 fa fn tabs tf ex cls2 (HandSHeadRun.getT s)
theorem ob_eq (s : PySem.W.SharedT) : ob s = hk.obs s.abs := obsY_eq (HandSHeadRun.getT_eq s)
def loose1 : List PySem.Str := ["_wall", "TickError", "BadNumber", "BadPuzzle", "TooMany", "BadText", "is_integer", "is_within", "need_number", "FIGURES", "MOST_FIGURES", "written", "Scan", "MOST_ITEMS", "MOST_PILE", "MOST_NUMBER", "NUMBER", "TRUTH", "ANSWER", "GIVEN", "DEEDS"]
def loose2 : List PySem.Str := ["kinds_behind", "rest_of", "made_of", "pile_behind", "piles_along", "right_for", "joined", "need_puzzle", "need_both", "Puzzle", "is_right", "both_of", "either_of", "turned_of"]
def loose3 : List PySem.Str := ["_law_weft", "_law_throw", "_law_one", "_law_heard", "_law_count", "_law_truth", "_law_check", "_law_rest", "_law_behind", "_law_piles", "_law_is_right", "_law_long", "_law_joined_right"]
def loose : List PySem.Str := loose1 ++ (loose2 ++ loose3)
theorem run (w : World) : HandSHeadRun.RunEq RR (PySem.W.view RR.prog [53]) hk ob 8000 loose w := by
  refine PySem.W.byRow2 "special-get-raises" (P := fun w => HandSHeadRun.RunEq RR (PySem.W.view RR.prog [53]) hk ob 8000 loose w) (fun w => ?_) (fun w => ?_) w
  · intro os
    kernel_rfl
  · intro os
    kernel_rfl
end Dt

set_option Elab.async false
set_option linter.all false
set_option maxRecDepth 100000
set_option maxHeartbeats 2000000
/-! The law, called by the row's own caller. What is tracked at the call's beginning is one table of cases; every fact about the heap behind it is read off that table. -/
namespace Dt
open PySem PySem.Spec PyProof.Rows L2 LamX
/-- tracked when the call begins: the empty tables ts, and the script at a where the fragment does not tell it -/
def began (K : PySem.W.Frag) (a : Addr) (ob : Obj) (xs : List V) (ts : List Addr) : Hp := fun b =>
  if b ∈ ts then some (.tbl #[]) else if b = a ∧ (K.lookup a).isNone = true then some (.frz ob (.lst xs)) else none
section
variable {K : PySem.W.Frag} {a b : Addr} {ob o : Obj} {xs : List V} {ts : List Addr} {h : Heap}
theorem began_cases (b : Addr) : began K a ob xs ts b = none ∨ (b ∈ ts ∧ began K a ob xs ts b = some (.tbl #[])) ∨ (b = a ∧ K.lookup a = none ∧ began K a ob xs ts b = some (.frz ob (.lst xs))) := by
  by_cases m : b ∈ ts
  · exact .inr (.inl ⟨m, if_pos m⟩)
  · by_cases q : b = a ∧ (K.lookup a).isNone = true
    · exact .inr (.inr ⟨q.1, Option.isNone_iff_eq_none.mp q.2, (if_neg m).trans (if_pos q)⟩)
    · exact .inl ((if_neg m).trans (if_neg q))
/-- what the fragment tells is not tracked -/
theorem began_told (n : ∀ t ∈ ts, K.lookup t = none) (e : K.lookup b = some o) : began K a ob xs ts b = none :=
  (began_cases b).elim id fun z => absurd e (by
    rcases z with ⟨m, _⟩ | ⟨m, k, _⟩
    · simp [n b m]
    · simp [m, k])
/-- neither is an object that is no list and no empty record -/
theorem began_free (T : ∀ t ∈ ts, h.get? t = some { cls := .none, data := .fields #[] }) (A : h.get? a = some ob) (e : h.get? b = some o) (n : o.data ≠ .fields #[]) (n' : o.data ≠ ob.data) : began K a ob xs ts b = none :=
  (began_cases b).elim id fun z => by
    rcases z with ⟨m, _⟩ | ⟨m, _, _⟩
    · exact absurd (congrArg Obj.data (Option.some.inj (e.symm.trans (T b m)))) n
    · subst m
      exact absurd (congrArg Obj.data (Option.some.inj (e.symm.trans A))) n'
end
section
variable {P : Program} {w : World} {K : PySem.W.Frag} {mg mb : Str → Option Value} {fa a : Addr} {cs : List (Addr × Addr)} {s₁ : Shared} {vs : List Value} {ns : List Int}
/-- the tables' facts, told of the hidden heap g, if what is neither list nor empty record is seen there -/
theorem tabs_seen {h g : Heap} {p : Addr × Addr} (see : ∀ {b o}, h.get? b = some o → o.data ≠ .fields #[] → (∀ q n, o.data ≠ .seq q n) → g.get? b = some o)
    (hns : h.Ns mainGlobals mg) (t : h.get? p.2 = some { cls := .none, data := .fields #[] }) (C : PySem.W.CodeHd h p.1 p.2)
    (hbm : ∃ (bm : Addr) (ob : Obj), mg "__builtins__" = some (.ref bm) ∧ bm ≠ builtinsNs ∧ h.get? bm = some ob ∧ ob.cls = .type "module" ∧ ob.dict = some builtinsNs ∧ ob.data = .plain) : TabB g mg p.1 p.2 := by
  obtain ⟨og, gs, gp, hgo, hgd, -⟩ := hns
  obtain ⟨m, om, m1, m2, m3, m4, m5, m6⟩ := hbm
  obtain ⟨oc, us, x1, x2, x3, x4, x5, x6, x7, hc, y0, y1, y2, rest⟩ := C
  exact {
    code := ⟨oc, us, x1, x2, x3, x4, x5, x6, x7, see hc (by rw [y1]; intro q; cases q; simp at y2) (by rw [y1]; intro _ _ q; cases q), y0, y1, y2, rest⟩
    bm := ⟨m, om, m1, m2, (fun q => by subst q; rw [hgo] at m3; cases m3; rw [hgd] at m6; cases m6), (fun q => by subst q; rw [t] at m3; cases m3; cases m6),
      see m3 (by rw [m6]; intro q; cases q) (by rw [m6]; intro _ _ q; cases q), m4, m5, m6⟩
    gP := fun q => by rw [← q, hgo] at t; cases t; cases hgd }
theorem law_callQ
    (KX : K.In s₁.heap) (hns : s₁.heap.Ns mainGlobals mg) (hb : s₁.heap.Ns builtinsNs mb) (hbb : ∀ x : Str, x ≠ "__name__" → mb x = bootBuiltins x) (hlim : s₁.heap.NoLimit) (hg : s₁.gens = #[])
    (hT : ∀ p ∈ cs, s₁.heap.get? p.2 = some { cls := .none, data := .fields #[] }) (nT : ∀ p ∈ cs, K.lookup p.2 = none) (C : ∀ p ∈ cs, PySem.W.CodeHd s₁.heap p.1 p.2)
    (hbm : ∃ (bm : Addr) (ob : Obj), mg "__builtins__" = some (.ref bm) ∧ bm ≠ builtinsNs ∧ s₁.heap.get? bm = some ob ∧ ob.cls = .type "module" ∧ ob.dict = some builtinsNs ∧ ob.data = .plain)
    (ha : s₁.heap.get? a = some { cls := .type "list", data := .seq vs.toArray }) (hi : IntsAre vs ns) (hl : ns.length ≤ sizeLine)
    (F : ∀ base : Heap, K.In base → base.Ns mainGlobals mg → (∀ p ∈ cs, TabB base mg p.1 p.2) → ∀ H : Hp, Env0 P w K mg base callerA [] s₁ H → (∀ p ∈ cs, H p.2 = some (.tbl #[])) → SqL K H a (ns.map V.int) →
      codeAny (model P w) callerA (.call (.ref fa) ⟨[.ref a], []⟩) (CR CX0 [] P w H s₁ (fun v _ => v = .bl true) E0) s₁) :
    codeAny (model P w) callerA (.call (.ref fa) ⟨[.ref a], []⟩) (fun r s' => r = .ok (.ret (.bool true)) ∧ OldK s₁.heap s'.heap ∧ s'.os = s₁.os ∧ AllBare s'.gens) s₁ := by
  let script : Obj := { cls := .type "list", data := .seq vs.toArray }
  let ts : List Addr := cs.map Prod.snd
  let H : Hp := began K a script (ns.map V.int) ts
  have inTs : ∀ {t}, t ∈ ts → ∃ p ∈ cs, p.2 = t := fun m => List.mem_map.mp m
  have T : ∀ t ∈ ts, s₁.heap.get? t = some { cls := .none, data := .fields #[] } := fun t m => by
    obtain ⟨p, hp, rfl⟩ := inTs m
    exact hT p hp
  have told : ∀ {b o}, K.lookup b = some o → H b = none := fun e => began_told (fun t m => by
    obtain ⟨p, hp, rfl⟩ := inTs m
    exact nT p hp) e
  have tab : ∀ p ∈ cs, H p.2 = some (.tbl #[]) := fun p hp => if_pos (List.mem_map_of_mem hp)
  have see : ∀ {b o}, s₁.heap.get? b = some o → o.data ≠ .fields #[] → (∀ q n, o.data ≠ .seq q n) → (hidT s₁.heap H).get? b = some o := fun e n n' => hidT_get e (began_free T ha e n (n' _ _))
  have seeNs : ∀ {b m}, s₁.heap.Ns b m → (hidT s₁.heap H).Ns b m := fun ⟨o, es, ep, e, d, r⟩ => ⟨o, es, ep, see e (by rw [d]; exact nofun) (by rw [d]; exact nofun), d, r⟩
  have kin : K.In (hidT s₁.heap H) := fun b o e => hidT_get (KX b o e) (told e)
  have hok : HOk P w H s₁.heap := fun b u e => by
    rcases began_cases (K := K) (a := a) (ob := script) (xs := ns.map V.int) (ts := ts) b with z | ⟨m, z⟩ | ⟨m, _, z⟩
    · exact nomatch z.symm.trans e
    · obtain rfl := Option.some.inj (z.symm.trans e)
      exact T b m
    · obtain rfl := Option.some.inj (z.symm.trans e)
      subst m
      exact ⟨ha, (List.length_map (as := ns) V.int).symm ▸ hl, vs, _, vals_ints hi, ha⟩
  have sq : SqL K H a (ns.map V.int) := by
    cases k : K.lookup a with
    | some o =>
      obtain rfl := Option.some.inj (ha.symm.trans (KX a o k))
      exact .inr ⟨_, vs.toArray, _, k, rfl, rfl, rfl, by simpa [hi.length] using hl, by simpa using vals_ints hi⟩
    | none =>
      rcases began_cases (K := K) (a := a) (ob := script) (xs := ns.map V.int) (ts := ts) a with z | ⟨m, _⟩ | ⟨_, _, z⟩
      · exact absurd z (by
          show (if a ∈ ts then some (.tbl #[]) else if a = a ∧ (K.lookup a).isNone = true then some (.frz script (.lst (ns.map V.int))) else none : Option HO) ≠ none
          rw [k]
          split <;> simp)
      · exact nomatch congrArg Obj.data (Option.some.inj (ha.symm.trans (T a m)))
      · exact .inl (.inr ⟨_, z⟩)
  have env : Env0 P w K mg (hidT s₁.heap H) callerA [] s₁ H :=
    ⟨rfl, ⟨kin, seeNs hns, ⟨mb, seeNs hb, hbb⟩, hlim.imp fun _ q => ⟨seeNs q.1, q.2⟩⟩, fun _ _ e => of_hidT e, Nat.le_of_eq (hidT_size _ _), trivial, fun _ m => (nomatch (m : _ ∈ ([] : List Addr))), hok, .of_eq hg⟩
  refine codeAny_mono (F _ kin (seeNs hns) (fun p hp => tabs_seen see hns (hT p hp) (C p hp) hbm) H env tab sq) fun r s' out => ?_
  match r, out with
  | .ok (.ret u), ⟨v, H', os, bare, un, hok', rel, q⟩ =>
    obtain rfl : v = .bl true := q
    obtain rfl : u = .bool true := rel
    have after : ∀ b o, s₁.heap.get? b = some o → s'.heap.get? b = some o ∨ (b ∈ ts ∧ ∃ more : Array Value, s'.heap.get? b = some { cls := .none, data := .fields more }) := fun b o e => by
      rcases began_cases (K := K) (a := a) (ob := script) (xs := ns.map V.int) (ts := ts) b with z | ⟨m, z⟩ | ⟨m, _, z⟩
      · exact .inl (un.keep b o e z (fun m => (nomatch (m : _ ∈ ([] : List Addr)))) (fun m => (nomatch m)))
      · obtain ⟨more, q⟩ := un.tbls b _ z
        exact .inr ⟨m, _, hok' b _ q⟩
      · have q := (hok' b _ (un.frzs b _ _ z)).1
        subst m
        exact .inl ((ha.symm.trans e) ▸ q)
    exact ⟨rfl, ⟨fun b o e => (after b o e).imp id fun ⟨m, more, q⟩ => by
      obtain ⟨p, hp, rfl⟩ := inTs m
      obtain rfl := Option.some.inj ((hT p hp).symm.trans e)
      exact .inl ⟨((C p hp).tab (hT p hp)).isCodeTable, rfl, #[], more, rfl, by rw [Array.empty_append]; exact q⟩, fun b o e => (after b o e).elim (⟨_, ·⟩) fun ⟨_, _, q⟩ => ⟨_, q⟩⟩, os, bare⟩
end
end Dt

set_option Elab.async false
set_option linter.all false
set_option maxRecDepth 100000
set_option maxHeartbeats 2000000
namespace Dt
open PySem PySem.Spec PyProof.Rows L2 DtR LamX
theorem funOf {K : PySem.W.Frag} {x qual : Str} {st : Stmt} {f : Addr} {fd : FuncData} (F : FunD K x qual (defArgs st) (defBody st) (defScope st) [] [] f fd) : Fun K x qual st f fd := by
  obtain ⟨oc, od, dV, kV, doc, pm, an, cdv, ct, osl, rfl, lk, hcd, hD, hK⟩ := F.ex
  rcases hD with ⟨_, rfl⟩ | ⟨z, _⟩
  · exact ⟨⟨oc, od, kV, doc, pm, an, cdv, ct, osl, rfl, lk, hcd⟩, F.kp⟩
  · exact absurd rfl z
theorem funC_of {K : PySem.W.Frag} {mg : Str → Option Value} {x : Str} {st : Stmt} {p : He.Defn} {fd : FuncData} {ps : List Str} (F : FunD K x x (defArgs st) (defBody st) (defScope st) [] [] (He.fAd K p) fd) (m : mg x = some (.ref (He.fAd K p)))
    (h : ∀ (kV doc pm : Value) (an : Option Addr) (cdv ct : Value) (us : List Value), us.length = ps.length → bindArgs (PySem.W.fnOf x x (defArgs st) (defBody st) (defScope st) .none kV doc pm an cdv ct) ⟨us, []⟩ = pure (ps.zip us)) : FunC K mg x st (He.fAd K p) (He.cT K p).1 ps := by
  obtain ⟨oc, od, dV, kV, doc, pm, an, cdv, ct, osl, rfl, lk, hcd, hD, hK⟩ := F.ex
  rcases hD with ⟨_, rfl⟩ | ⟨z, _⟩
  · obtain ⟨c, rfl⟩ := He.codeIn_ref hcd
    have e : (He.cT K p).1 = c := He.codeOf_eq lk rfl
    rw [e]
    exact ⟨⟨oc, od, kV, doc, pm, an, ct, osl, lk, .all (h kV doc pm an (.ref c) ct)⟩, hcd, F.kp, m⟩
  · exact absurd rfl z
theorem kbn_of {K : PySem.W.Frag} {x : Str} {st : Stmt} {f : Addr} {fd : FuncData} {ps ks : List Str} {g : List Value → List Value → List Value} {gV : List V → List V → List V} (U : Fun K x x st f fd)
    (h : ∀ (kV doc pm : Value) (an : Option Addr) (cdv ct : Value) (ws : List Value), ws.length = ks.length → bindArgs (PySem.W.fnOf x x (defArgs st) (defBody st) (defScope st) .none kV doc pm an cdv ct) ⟨[], ks.zip ws⟩ = pure (ps.zip (g [] ws)))
    (hr : ∀ {zs : List V} {ws : List Value} {vs : List V} {us : List Value}, Vals vs us → Vals zs ws → Vals (gV vs zs) (g us ws)) : KBn K fd ps 0 ks g gV := by
  obtain ⟨oc, od, kV, doc, pm, an, cdv, ct, osl, rfl, lk, hcd⟩ := U.ex
  refine ⟨fun s us ws _ hu hw => ?_, fun r rz => hr r rz⟩
  cases us with
  | nil => exact BindsTo.of_eq (h kV doc pm an cdv ct ws hw)
  | cons _ _ => cases hu
def gSw : List Value → List Value → List Value := fun _ ws => match ws with
  | [a, b] => [b, a]
  | l => l
theorem gSw_rel {zs : List V} {ws : List Value} {vs : List V} {us : List Value} (_ : Vals vs us) (r : Vals zs ws) : Vals (gSwap vs zs) (gSw us ws) := by
  match zs, ws, r with
  | [], _, .nil => exact .nil
  | [_], _, .cons r .nil => exact .cons r .nil
  | [_, _], _, .cons r1 (.cons r2 .nil) => exact .cons r2 (.cons r1 .nil)
  | _ :: _ :: _ :: _, _, .cons r1 (.cons r2 (.cons r3 r4)) => exact .cons r1 (.cons r2 (.cons r3 r4))
theorem sup_of {w : World} {K : PySem.W.Frag} {mg : Str → Option Value} {d : ClD} {st : Stmt} {C f : Addr} (hd : d = ⟨d.at_, "__init__", d.qual, defArgs st, defBody st, defScope st⟩) (e : clW K d.at_ = d.val) (h : clB K d C PP.main.file = true) (hf : He.fAd K d.at_ = f) (ox : oexB K C = true) (xc : xcB K C f = true)
    (opq : PySem.W.nsIn K cStatics "thirdparty.any" = some none) (mgS : mg "super" = none) : ∃ fd, ExI PP K mg C f d.qual st fd ∧ PySem.W.findIn K (.ref C) "__init__" = some (some (.ref f)) ∧ PySem.W.typeIn K (.ref f) = some (.type "function") ∧
      ∃ (cc cda : Addr) (kV doc pm ct : Value) (an : Option Addr), fd = PySem.W.ksFn "__init__" d.qual (defArgs st) (defBody st) (defScope st) .none kV doc pm an (.ref cda) ct cc := by
  obtain ⟨at_, nm, q, ps, bd, sc⟩ := d
  injection hd with _ h2 _ h4 h5 h6
  subst h2 h4 h5 h6
  obtain ⟨cc, cda, kV, doc, pm, ct, an, oc, od, osl, lk, hcd, hcell, hfile⟩ := clB_ok e h
  rw [hf] at lk
  obtain ⟨_, xc⟩ := He.ba xc
  obtain ⟨_, xc⟩ := He.ba xc
  obtain ⟨_, xc⟩ := He.ba xc
  obtain ⟨_, xc⟩ := He.ba xc
  obtain ⟨_, xc⟩ := He.ba xc
  obtain ⟨_, xc⟩ := He.ba xc
  obtain ⟨x7, xc⟩ := He.ba xc
  obtain ⟨x8, xc⟩ := He.ba xc
  obtain ⟨x9, xc⟩ := He.ba xc
  obtain ⟨x10, x11⟩ := He.ba xc
  exact ⟨_, ⟨cc, cda, kV, doc, pm, ct, an, rfl, ⟨oexB_ok ox, of_decide_eq_true x7, He.eqO_ok x8, of_decide_eq_true x9, opq, mgS, ⟨oc, od, osl, lk⟩, hfile, hcell, by decide +kernel⟩, hcd⟩, He.eqO_ok x10, of_decide_eq_true x11, cc, cda, kV, doc, pm, ct, an, rfl⟩
theorem xcF_of {K : PySem.W.Frag} {C f : Addr} (ox : oexB K C = true) (xc : xcB K C f = true) (hn : PySem.W.specialIn K (.builtin "object.__class__") "__get__" = some (some (.builtin "getset_descriptor.__get__"))) (htk : PySem.W.takesIn K (.builtin "object.__class__") = some true) : XcF K C := by
  obtain ⟨x1, xc⟩ := He.ba xc
  obtain ⟨x2, xc⟩ := He.ba xc
  obtain ⟨x3, xc⟩ := He.ba xc
  obtain ⟨x4, xc⟩ := He.ba xc
  obtain ⟨x5, xc⟩ := He.ba xc
  obtain ⟨x6, xc⟩ := He.ba xc
  exact ⟨⟨He.eqO_ok x2, He.eqO_ok x3, (oexB_ok ox).exC, x4⟩, ⟨x1, of_decide_eq_true x6⟩, He.eqO_ok x5, hn, htk⟩
theorem facts {w : World} {K : PySem.W.Frag} {h : Heap} {mg : Str → Option Value} {fL : Addr} (X : K.In h) (G : h.Ns mainGlobals mg) (hfa : mg ("law" : Str) = some (.ref fL)) (c : SaysY fa fn tabs tf ex cls2 w h K) :
    ∃ (cs : List (Addr × Addr)), (∀ p ∈ cs, h.get? p.2 = some { cls := .none, data := .fields #[] }) ∧ (∀ p ∈ cs, K.lookup p.2 = none) ∧ (∀ p ∈ cs, PySem.W.CodeHd h p.1 p.2) ∧
      ∀ (s : Shared) (a : Addr) (ns : List Int) (base : Heap), ns.length ≤ 63 → K.In base → base.Ns mainGlobals mg → (∀ p ∈ cs, TabB base mg p.1 p.2) → ∀ H : Hp, Env0 PP w K mg base callerA [] s H → (∀ p ∈ cs, H p.2 = some (.tbl #[])) → SqL K H a (ns.map V.int) →
        codeAny (model PP w) callerA (.call (.ref fL) ⟨[.ref a], []⟩) (CR CX0 [] PP w H s (fun v _ => v = .bl true) E0) s := by
  have g_is_integer := He.glo_ok X G (c.x.t.d.fact 6 (f := .glo "is_integer") rfl)
  have g_is_within := He.glo_ok X G (c.x.t.d.fact 7 (f := .glo "is_within") rfl)
  have g_need_number := He.glo_ok X G (c.x.t.d.fact 8 (f := .glo "need_number") rfl)
  have g_written := He.glo_ok X G (c.x.t.d.fact 9 (f := .glo "written") rfl)
  have g_kinds_behind := He.glo_ok X G (c.x.t.d.fact 10 (f := .glo "kinds_behind") rfl)
  have g_rest_of := He.glo_ok X G (c.x.t.d.fact 11 (f := .glo "rest_of") rfl)
  have g_made_of := He.glo_ok X G (c.x.t.d.fact 12 (f := .glo "made_of") rfl)
  have g_pile_behind := He.glo_ok X G (c.x.t.d.fact 13 (f := .glo "pile_behind") rfl)
  have g_piles_along := He.glo_ok X G (c.x.t.d.fact 14 (f := .glo "piles_along") rfl)
  have g_right_for := He.glo_ok X G (c.x.t.d.fact 15 (f := .glo "right_for") rfl)
  have g_joined := He.glo_ok X G (c.x.t.d.fact 16 (f := .glo "joined") rfl)
  have g_need_puzzle := He.glo_ok X G (c.x.t.d.fact 17 (f := .glo "need_puzzle") rfl)
  have g_need_both := He.glo_ok X G (c.x.t.d.fact 18 (f := .glo "need_both") rfl)
  have g_is_right := He.glo_ok X G (c.x.t.d.fact 19 (f := .glo "is_right") rfl)
  have g_both_of := He.glo_ok X G (c.x.t.d.fact 20 (f := .glo "both_of") rfl)
  have g_either_of := He.glo_ok X G (c.x.t.d.fact 21 (f := .glo "either_of") rfl)
  have g_turned_of := He.glo_ok X G (c.x.t.d.fact 22 (f := .glo "turned_of") rfl)
  have g__law_weft := He.glo_ok X G (c.x.t.d.fact 23 (f := .glo "_law_weft") rfl)
  have g__law_throw := He.glo_ok X G (c.x.t.d.fact 24 (f := .glo "_law_throw") rfl)
  have g__law_one := He.glo_ok X G (c.x.t.d.fact 25 (f := .glo "_law_one") rfl)
  have g__law_heard := He.glo_ok X G (c.x.t.d.fact 26 (f := .glo "_law_heard") rfl)
  have g__law_count := He.glo_ok X G (c.x.t.d.fact 27 (f := .glo "_law_count") rfl)
  have g__law_truth := He.glo_ok X G (c.x.t.d.fact 28 (f := .glo "_law_truth") rfl)
  have g__law_check := He.glo_ok X G (c.x.t.d.fact 29 (f := .glo "_law_check") rfl)
  have g__law_rest := He.glo_ok X G (c.x.t.d.fact 30 (f := .glo "_law_rest") rfl)
  have g__law_behind := He.glo_ok X G (c.x.t.d.fact 31 (f := .glo "_law_behind") rfl)
  have g__law_piles := He.glo_ok X G (c.x.t.d.fact 32 (f := .glo "_law_piles") rfl)
  have g__law_is_right := He.glo_ok X G (c.x.t.d.fact 33 (f := .glo "_law_is_right") rfl)
  have g__law_long := He.glo_ok X G (c.x.t.d.fact 34 (f := .glo "_law_long") rfl)
  have g__law_joined_right := He.glo_ok X G (c.x.t.d.fact 35 (f := .glo "_law_joined_right") rfl)
  have g_law := He.glo_ok X G (c.x.t.d.fact 36 (f := .glo "law") rfl)
  have g_TickError := He.glo_ok X G (c.x.t.d.fact 0 (f := .glo "TickError") rfl)
  have g_BadPuzzle := He.glo_ok X G (c.x.t.d.fact 1 (f := .glo "BadPuzzle") rfl)
  have g_TooMany := He.glo_ok X G (c.x.t.d.fact 2 (f := .glo "TooMany") rfl)
  have g_Scan := He.glo_ok X G (c.x.t.d.fact 3 (f := .glo "Scan") rfl)
  have g_Puzzle := He.glo_ok X G (c.x.t.d.fact 4 (f := .glo "Puzzle") rfl)
  have g_DEEDS := He.glo_ok X G (c.x.t.d.fact 5 (f := .glo "DEEDS") rfl)
  obtain ⟨fd_is_integer, F_is_integer⟩ := c.x.t.d.def_ 0 (d := ⟨("is_integer", none), "is_integer", "is_integer", defArgs sIsInt, defBody sIsInt, defScope sIsInt, [], []⟩) rfl
  have U_is_integer : Fun K "is_integer" "is_integer" sIsInt (He.ga K "is_integer") fd_is_integer := funOf F_is_integer
  have b_is_integer := U_is_integer.binds (ps := ["value"]) fun _ _ _ _ _ _ us hl => match us, hl with | [_], _ => rfl
  obtain ⟨fd_is_within, F_is_within⟩ := c.x.t.d.def_ 1 (d := ⟨("is_within", none), "is_within", "is_within", defArgs sWithin, defBody sWithin, defScope sWithin, [], []⟩) rfl
  have U_is_within : Fun K "is_within" "is_within" sWithin (He.ga K "is_within") fd_is_within := funOf F_is_within
  have b_is_within := U_is_within.binds (ps := ["value", "least", "most"]) fun _ _ _ _ _ _ us hl => match us, hl with | [_, _, _], _ => rfl
  obtain ⟨fd_need_number, F_need_number⟩ := c.x.t.d.def_ 2 (d := ⟨("need_number", none), "need_number", "need_number", defArgs sNeedNum, defBody sNeedNum, defScope sNeedNum, [], []⟩) rfl
  have U_need_number : Fun K "need_number" "need_number" sNeedNum (He.ga K "need_number") fd_need_number := funOf F_need_number
  have b_need_number := U_need_number.binds (ps := ["value", "part", "least", "most"]) fun _ _ _ _ _ _ us hl => match us, hl with | [_, _, _, _], _ => rfl
  obtain ⟨fd_written, F_written⟩ := c.x.t.d.def_ 3 (d := ⟨("written", none), "written", "written", defArgs sWritten, defBody sWritten, defScope sWritten, [], []⟩) rfl
  have U_written : Fun K "written" "written" sWritten (He.ga K "written") fd_written := funOf F_written
  have b_written := U_written.binds (ps := ["item"]) fun _ _ _ _ _ _ us hl => match us, hl with | [_], _ => rfl
  obtain ⟨fd_kinds_behind, F_kinds_behind⟩ := c.x.t.d.def_ 4 (d := ⟨("kinds_behind", none), "kinds_behind", "kinds_behind", defArgs sKinds, defBody sKinds, defScope sKinds, [], []⟩) rfl
  have U_kinds_behind : Fun K "kinds_behind" "kinds_behind" sKinds (He.ga K "kinds_behind") fd_kinds_behind := funOf F_kinds_behind
  have b_kinds_behind := U_kinds_behind.binds (ps := ["kinds", "item"]) fun _ _ _ _ _ _ us hl => match us, hl with | [_, _], _ => rfl
  obtain ⟨fd_rest_of, F_rest_of⟩ := c.x.t.d.def_ 5 (d := ⟨("rest_of", none), "rest_of", "rest_of", defArgs sRestOf, defBody sRestOf, defScope sRestOf, [], []⟩) rfl
  have U_rest_of : Fun K "rest_of" "rest_of" sRestOf (He.ga K "rest_of") fd_rest_of := funOf F_rest_of
  have b_rest_of := U_rest_of.binds (ps := ["one", "other"]) fun _ _ _ _ _ _ us hl => match us, hl with | [_, _], _ => rfl
  obtain ⟨fd_made_of, F_made_of⟩ := c.x.t.d.def_ 6 (d := ⟨("made_of", none), "made_of", "made_of", defArgs sMade, defBody sMade, defScope sMade, [], []⟩) rfl
  have U_made_of : Fun K "made_of" "made_of" sMade (He.ga K "made_of") fd_made_of := funOf F_made_of
  have b_made_of := U_made_of.binds (ps := ["item", "below", "top"]) fun _ _ _ _ _ _ us hl => match us, hl with | [_, _, _], _ => rfl
  obtain ⟨fd_pile_behind, F_pile_behind⟩ := c.x.t.d.def_ 7 (d := ⟨("pile_behind", none), "pile_behind", "pile_behind", defArgs sPile, defBody sPile, defScope sPile, [], []⟩) rfl
  have U_pile_behind : Fun K "pile_behind" "pile_behind" sPile (He.ga K "pile_behind") fd_pile_behind := funOf F_pile_behind
  have b_pile_behind := U_pile_behind.binds (ps := ["pile", "item", "given", "answer"]) fun _ _ _ _ _ _ us hl => match us, hl with | [_, _, _, _], _ => rfl
  obtain ⟨fd_piles_along, F_piles_along⟩ := c.x.t.d.def_ 8 (d := ⟨("piles_along", none), "piles_along", "piles_along", defArgs sAlong, defBody sAlong, defScope sAlong, [], []⟩) rfl
  have U_piles_along : Fun K "piles_along" "piles_along" sAlong (He.ga K "piles_along") fd_piles_along := funOf F_piles_along
  have b_piles_along := U_piles_along.binds (ps := ["puzzle", "given", "answer"]) fun _ _ _ _ _ _ us hl => match us, hl with | [_, _, _], _ => rfl
  obtain ⟨fd_right_for, F_right_for⟩ := c.x.t.d.def_ 9 (d := ⟨("right_for", none), "right_for", "right_for", defArgs sRight, defBody sRight, defScope sRight, [], []⟩) rfl
  have U_right_for : Fun K "right_for" "right_for" sRight (He.ga K "right_for") fd_right_for := funOf F_right_for
  have b_right_for := U_right_for.binds (ps := ["puzzle", "given", "answer"]) fun _ _ _ _ _ _ us hl => match us, hl with | [_, _, _], _ => rfl
  obtain ⟨fd_joined, F_joined⟩ := c.x.t.d.def_ 10 (d := ⟨("joined", none), "joined", "joined", defArgs sJoined, defBody sJoined, defScope sJoined, [], []⟩) rfl
  have U_joined : Fun K "joined" "joined" sJoined (He.ga K "joined") fd_joined := funOf F_joined
  have b_joined := U_joined.binds (ps := ["texts"]) fun _ _ _ _ _ _ us hl => match us, hl with | [_], _ => rfl
  obtain ⟨fd_need_puzzle, F_need_puzzle⟩ := c.x.t.d.def_ 11 (d := ⟨("need_puzzle", none), "need_puzzle", "need_puzzle", defArgs sNeedP, defBody sNeedP, defScope sNeedP, [.str "puzzle"], []⟩) rfl
  obtain ⟨fd_need_both, F_need_both⟩ := c.x.t.d.def_ 12 (d := ⟨("need_both", none), "need_both", "need_both", defArgs sNeedB, defBody sNeedB, defScope sNeedB, [], []⟩) rfl
  have U_need_both : Fun K "need_both" "need_both" sNeedB (He.ga K "need_both") fd_need_both := funOf F_need_both
  have b_need_both := U_need_both.binds (ps := ["given", "answer"]) fun _ _ _ _ _ _ us hl => match us, hl with | [_, _], _ => rfl
  obtain ⟨fd_is_right, F_is_right⟩ := c.x.t.d.def_ 13 (d := ⟨("is_right", none), "is_right", "is_right", defArgs sIsRight, defBody sIsRight, defScope sIsRight, [], []⟩) rfl
  have U_is_right : Fun K "is_right" "is_right" sIsRight (He.ga K "is_right") fd_is_right := funOf F_is_right
  have b_is_right := U_is_right.binds (ps := ["puzzle", "given", "answer"]) fun _ _ _ _ _ _ us hl => match us, hl with | [_, _, _], _ => rfl
  obtain ⟨fd_both_of, F_both_of⟩ := c.x.t.d.def_ 14 (d := ⟨("both_of", none), "both_of", "both_of", defArgs sBoth, defBody sBoth, defScope sBoth, [], []⟩) rfl
  have U_both_of : Fun K "both_of" "both_of" sBoth (He.ga K "both_of") fd_both_of := funOf F_both_of
  have b_both_of := U_both_of.binds (ps := ["one", "other"]) fun _ _ _ _ _ _ us hl => match us, hl with | [_, _], _ => rfl
  obtain ⟨fd_either_of, F_either_of⟩ := c.x.t.d.def_ 15 (d := ⟨("either_of", none), "either_of", "either_of", defArgs sEither, defBody sEither, defScope sEither, [], []⟩) rfl
  have U_either_of : Fun K "either_of" "either_of" sEither (He.ga K "either_of") fd_either_of := funOf F_either_of
  have b_either_of := U_either_of.binds (ps := ["one", "other"]) fun _ _ _ _ _ _ us hl => match us, hl with | [_, _], _ => rfl
  obtain ⟨fd_turned_of, F_turned_of⟩ := c.x.t.d.def_ 16 (d := ⟨("turned_of", none), "turned_of", "turned_of", defArgs sTurned, defBody sTurned, defScope sTurned, [], []⟩) rfl
  have U_turned_of : Fun K "turned_of" "turned_of" sTurned (He.ga K "turned_of") fd_turned_of := funOf F_turned_of
  have b_turned_of := U_turned_of.binds (ps := ["puzzle"]) fun _ _ _ _ _ _ us hl => match us, hl with | [_], _ => rfl
  obtain ⟨fd__law_weft, F__law_weft⟩ := c.x.t.d.def_ 17 (d := ⟨("_law_weft", none), "_law_weft", "_law_weft", defArgs sWeft, defBody sWeft, defScope sWeft, [], []⟩) rfl
  have U__law_weft : Fun K "_law_weft" "_law_weft" sWeft (He.ga K "_law_weft") fd__law_weft := funOf F__law_weft
  have b__law_weft := U__law_weft.binds (ps := ["_law_script"]) fun _ _ _ _ _ _ us hl => match us, hl with | [_], _ => rfl
  obtain ⟨fd__law_throw, F__law_throw⟩ := c.x.t.d.def_ 18 (d := ⟨("_law_throw", none), "_law_throw", "_law_throw", defArgs sThrow, defBody sThrow, defScope sThrow, [], []⟩) rfl
  have U__law_throw : Fun K "_law_throw" "_law_throw" sThrow (He.ga K "_law_throw") fd__law_throw := funOf F__law_throw
  have b__law_throw := U__law_throw.binds (ps := ["_law_weft_here", "_law_many"]) fun _ _ _ _ _ _ us hl => match us, hl with | [_, _], _ => rfl
  obtain ⟨fd__law_one, F__law_one⟩ := c.x.t.d.def_ 19 (d := ⟨("_law_one", none), "_law_one", "_law_one", defArgs sOne, defBody sOne, defScope sOne, [], []⟩) rfl
  have U__law_one : Fun K "_law_one" "_law_one" sOne (He.ga K "_law_one") fd__law_one := funOf F__law_one
  have b__law_one := U__law_one.binds (ps := ["_law_weft_here", "_law_some"]) fun _ _ _ _ _ _ us hl => match us, hl with | [_, _], _ => rfl
  obtain ⟨fd__law_heard, F__law_heard⟩ := c.x.t.d.def_ 20 (d := ⟨("_law_heard", none), "_law_heard", "_law_heard", defArgs sHeard, defBody sHeard, defScope sHeard, [], []⟩) rfl
  have U__law_heard : Fun K "_law_heard" "_law_heard" sHeard (He.ga K "_law_heard") fd__law_heard := funOf F__law_heard
  have b__law_heard := U__law_heard.binds (ps := ["_law_ask"]) fun _ _ _ _ _ _ us hl => match us, hl with | [_], _ => rfl
  obtain ⟨fd__law_count, F__law_count⟩ := c.x.t.d.def_ 21 (d := ⟨("_law_count", none), "_law_count", "_law_count", defArgs sCount, defBody sCount, defScope sCount, [], []⟩) rfl
  have U__law_count : Fun K "_law_count" "_law_count" sCount (He.ga K "_law_count") fd__law_count := funOf F__law_count
  have b__law_count := U__law_count.binds (ps := ["_law_weft_here", "_law_deep"]) fun _ _ _ _ _ _ us hl => match us, hl with | [_, _], _ => rfl
  obtain ⟨fd__law_truth, F__law_truth⟩ := c.x.t.d.def_ 22 (d := ⟨("_law_truth", none), "_law_truth", "_law_truth", defArgs sTruth, defBody sTruth, defScope sTruth, [], []⟩) rfl
  have U__law_truth : Fun K "_law_truth" "_law_truth" sTruth (He.ga K "_law_truth") fd__law_truth := funOf F__law_truth
  have b__law_truth := U__law_truth.binds (ps := ["_law_weft_here", "_law_deep"]) fun _ _ _ _ _ _ us hl => match us, hl with | [_, _], _ => rfl
  obtain ⟨fd__law_check, F__law_check⟩ := c.x.t.d.def_ 23 (d := ⟨("_law_check", none), "_law_check", "_law_check", defArgs sCheck, defBody sCheck, defScope sCheck, [], []⟩) rfl
  have U__law_check : Fun K "_law_check" "_law_check" sCheck (He.ga K "_law_check") fd__law_check := funOf F__law_check
  have b__law_check := U__law_check.binds (ps := ["_law_weft_here", "_law_deep"]) fun _ _ _ _ _ _ us hl => match us, hl with | [_, _], _ => rfl
  obtain ⟨fd__law_rest, F__law_rest⟩ := c.x.t.d.def_ 24 (d := ⟨("_law_rest", none), "_law_rest", "_law_rest", defArgs sRest, defBody sRest, defScope sRest, [], []⟩) rfl
  have U__law_rest : Fun K "_law_rest" "_law_rest" sRest (He.ga K "_law_rest") fd__law_rest := funOf F__law_rest
  have b__law_rest := U__law_rest.binds (ps := ["_law_one_here", "_law_other"]) fun _ _ _ _ _ _ us hl => match us, hl with | [_, _], _ => rfl
  obtain ⟨fd__law_behind, F__law_behind⟩ := c.x.t.d.def_ 25 (d := ⟨("_law_behind", none), "_law_behind", "_law_behind", defArgs sBehind, defBody sBehind, defScope sBehind, [], []⟩) rfl
  have U__law_behind : Fun K "_law_behind" "_law_behind" sBehind (He.ga K "_law_behind") fd__law_behind := funOf F__law_behind
  have b__law_behind := U__law_behind.binds (ps := ["_law_pile", "_law_item", "_law_given", "_law_answer"]) fun _ _ _ _ _ _ us hl => match us, hl with | [_, _, _, _], _ => rfl
  obtain ⟨fd__law_piles, F__law_piles⟩ := c.x.t.d.def_ 26 (d := ⟨("_law_piles", none), "_law_piles", "_law_piles", defArgs sPiles, defBody sPiles, defScope sPiles, [], []⟩) rfl
  have U__law_piles : Fun K "_law_piles" "_law_piles" sPiles (He.ga K "_law_piles") fd__law_piles := funOf F__law_piles
  have b__law_piles := U__law_piles.binds (ps := ["_law_items", "_law_given", "_law_answer"]) fun _ _ _ _ _ _ us hl => match us, hl with | [_, _, _], _ => rfl
  obtain ⟨fd__law_is_right, F__law_is_right⟩ := c.x.t.d.def_ 27 (d := ⟨("_law_is_right", none), "_law_is_right", "_law_is_right", defArgs sLIsR, defBody sLIsR, defScope sLIsR, [], []⟩) rfl
  have U__law_is_right : Fun K "_law_is_right" "_law_is_right" sLIsR (He.ga K "_law_is_right") fd__law_is_right := funOf F__law_is_right
  have b__law_is_right := U__law_is_right.binds (ps := ["_law_items", "_law_given", "_law_answer"]) fun _ _ _ _ _ _ us hl => match us, hl with | [_, _, _], _ => rfl
  obtain ⟨fd__law_long, F__law_long⟩ := c.x.t.d.def_ 28 (d := ⟨("_law_long", none), "_law_long", "_law_long", defArgs sLong, defBody sLong, defScope sLong, [], []⟩) rfl
  have U__law_long : Fun K "_law_long" "_law_long" sLong (He.ga K "_law_long") fd__law_long := funOf F__law_long
  have b__law_long := U__law_long.binds (ps := ["_law_weft_here", "_law_items"]) fun _ _ _ _ _ _ us hl => match us, hl with | [_, _], _ => rfl
  obtain ⟨fd__law_joined_right, F__law_joined_right⟩ := c.x.t.d.def_ 29 (d := ⟨("_law_joined_right", none), "_law_joined_right", "_law_joined_right", defArgs sJR, defBody sJR, defScope sJR, [], []⟩) rfl
  obtain ⟨fd_law, F_law⟩ := c.x.t.d.def_ 30 (d := ⟨("law", none), "law", "law", defArgs sLaw, defBody sLaw, defScope sLaw, [], []⟩) rfl
  obtain ⟨fd_Scan___init__, F_Scan___init__⟩ := c.x.t.d.def_ 31 (d := ⟨("Scan", some "__init__"), "__init__", "Scan.__init__", defArgs sScInit, defBody sScInit, defScope sScInit, [], []⟩) rfl
  have U_Scan___init__ : Fun K "__init__" "Scan.__init__" sScInit (He.ma K (He.ga K "Scan") "__init__") fd_Scan___init__ := funOf F_Scan___init__
  have b_Scan___init__ := U_Scan___init__.binds (ps := ["self", "text"]) fun _ _ _ _ _ _ us hl => match us, hl with | [_, _], _ => rfl
  obtain ⟨fd_Scan_ahead, F_Scan_ahead⟩ := c.x.t.d.def_ 32 (d := ⟨("Scan", some "ahead"), "ahead", "Scan.ahead", defArgs sScAhead, defBody sScAhead, defScope sScAhead, [], []⟩) rfl
  have U_Scan_ahead : Fun K "ahead" "Scan.ahead" sScAhead (He.ma K (He.ga K "Scan") "ahead") fd_Scan_ahead := funOf F_Scan_ahead
  have b_Scan_ahead := U_Scan_ahead.binds (ps := ["self"]) fun _ _ _ _ _ _ us hl => match us, hl with | [_], _ => rfl
  obtain ⟨fd_Scan_take, F_Scan_take⟩ := c.x.t.d.def_ 33 (d := ⟨("Scan", some "take"), "take", "Scan.take", defArgs sScTake, defBody sScTake, defScope sScTake, [], []⟩) rfl
  have U_Scan_take : Fun K "take" "Scan.take" sScTake (He.ma K (He.ga K "Scan") "take") fd_Scan_take := funOf F_Scan_take
  have b_Scan_take := U_Scan_take.binds (ps := ["self"]) fun _ _ _ _ _ _ us hl => match us, hl with | [_], _ => rfl
  obtain ⟨fd_Puzzle___init__, F_Puzzle___init__⟩ := c.x.t.d.def_ 34 (d := ⟨("Puzzle", some "__init__"), "__init__", "Puzzle.__init__", defArgs sPzInit, defBody sPzInit, defScope sPzInit, [], []⟩) rfl
  have U_Puzzle___init__ : Fun K "__init__" "Puzzle.__init__" sPzInit (He.ma K (He.ga K "Puzzle") "__init__") fd_Puzzle___init__ := funOf F_Puzzle___init__
  have b_Puzzle___init__ := U_Puzzle___init__.binds (ps := ["self", "text"]) fun _ _ _ _ _ _ us hl => match us, hl with | [_, _], _ => rfl
  have T : Nm mg := ⟨He.free_ok X G (c.x.t.d.fact 37 (f := .free "isinstance") rfl), He.free_ok X G (c.x.t.d.fact 38 (f := .free "int") rfl), He.free_ok X G (c.x.t.d.fact 39 (f := .free "bool") rfl), He.free_ok X G (c.x.t.d.fact 40 (f := .free "str") rfl), He.free_ok X G (c.x.t.d.fact 41 (f := .free "len") rfl), He.free_ok X G (c.x.t.d.fact 42 (f := .free "all") rfl), He.free_ok X G (c.x.t.d.fact 43 (f := .free "abs") rfl), He.free_ok X G (c.x.t.d.fact 44 (f := .free "max") rfl), He.free_ok X G (c.x.t.d.fact 45 (f := .free "tuple") rfl), He.free_ok X G (c.x.t.d.fact 46 (f := .free "repr") rfl), He.free_ok X G (c.x.t.d.fact 47 (f := .free "range") rfl), He.free_ok X G (c.x.t.d.fact 48 (f := .free "super") rfl)⟩
  have GT : TxG mg := ⟨He.str_ok X G (c.x.t.d.fact 53 (f := .str "FIGURES" "0123456789") rfl), He.int_ok X G (c.x.t.d.fact 49 (f := .int "MOST_FIGURES" 140) rfl)⟩
  have Z : PzG mg := ⟨He.int_ok X G (c.x.t.d.fact 50 (f := .int "MOST_ITEMS" 40) rfl), He.int_ok X G (c.x.t.d.fact 51 (f := .int "MOST_PILE" 20) rfl), He.int_ok X G (c.x.t.d.fact 52 (f := .int "MOST_NUMBER" (10 ^ 18)) rfl), He.str_ok X G (c.x.t.d.fact 54 (f := .str "NUMBER" "number") rfl), He.str_ok X G (c.x.t.d.fact 55 (f := .str "TRUTH" "truth") rfl), He.str_ok X G (c.x.t.d.fact 56 (f := .str "ANSWER" "a") rfl), He.str_ok X G (c.x.t.d.fact 57 (f := .str "GIVEN" "n") rfl)⟩
  obtain ⟨x0, more⟩ := He.ba c.x.more
  obtain ⟨xD, more⟩ := He.ba more
  obtain ⟨xP, xE⟩ := He.ba more
  obtain ⟨es, nn, KD⟩ := c.x.t.tab 0 (t := (fun K => He.ga K "DEEDS", ["+", "-", "*", "rem", "=", "<", "and", "or", "not"])) rfl
  have GD : DeedG K w mg := deedsB_ok xD g_DEEDS KD
  obtain ⟨oB, xE⟩ := He.ba xE
  obtain ⟨oT, xE⟩ := He.ba xE
  obtain ⟨lB, xE⟩ := He.ba xE
  obtain ⟨lT, xE⟩ := He.ba xE
  obtain ⟨cB, xE⟩ := He.ba xE
  obtain ⟨cT, xE⟩ := He.ba xE
  obtain ⟨opq, xE⟩ := He.ba xE
  obtain ⟨sg, xE⟩ := He.ba xE
  obtain ⟨tk, xE⟩ := He.ba xE
  obtain ⟨pB, xE⟩ := He.ba xE
  obtain ⟨pW, xE⟩ := He.ba xE
  obtain ⟨pM, xE⟩ := He.ba xE
  obtain ⟨kTT, xE⟩ := He.ba xE
  obtain ⟨kBT, kBB⟩ := He.ba xE
  have sg := He.eqO_ok sg
  have tk := of_decide_eq_true tk
  have HF : HeF K mg (He.ga K "TickError") (He.ga K "BadPuzzle") (He.ga K "TooMany") := ⟨g_TickError, g_BadPuzzle, g_TooMany, xcF_of oB cB sg tk, xcF_of oT cT sg tk, He.exm_ok (c.x.t.d.fact 69 (f := .exm "BadPuzzle" "TickError" true) rfl), He.exm_ok (c.x.t.d.fact 70 (f := .exm "TooMany" "TickError" true) rfl), of_decide_eq_true kTT, of_decide_eq_true kBT, of_decide_eq_true kBB, He.eqO_ok pW, He.eqO_ok pM, He.eqO_ok pB⟩
  have clP := He.cls_ok (c.x.t.d.fact 59 (f := .cls "Puzzle") rfl)
  have S : ScC K mg (He.ga K "Scan") := ⟨He.cls_ok (c.x.t.d.fact 58 (f := .cls "Scan") rfl), He.noat_ok (c.x.t.d.fact 60 (f := .noat "Scan" "words") rfl), He.noat_ok (c.x.t.d.fact 61 (f := .noat "Scan" "at") rfl)⟩
  have Pz : PzC K mg (He.ga K "Puzzle") := ⟨clP, He.noat_ok (c.x.t.d.fact 62 (f := .noat "Puzzle" "text") rfl), He.noat_ok (c.x.t.d.fact 63 (f := .noat "Puzzle" "check") rfl), He.noat_ok (c.x.t.d.fact 64 (f := .noat "Puzzle" "cost") rfl)⟩
  obtain ⟨i1, xP⟩ := He.ba xP
  obtain ⟨i2, xP⟩ := He.ba xP
  obtain ⟨i3, xP⟩ := He.ba xP
  obtain ⟨i4, xP⟩ := He.ba xP
  obtain ⟨i5, xP⟩ := He.ba xP
  obtain ⟨i6, xP⟩ := He.ba xP
  obtain ⟨i7, i8⟩ := He.ba xP
  have IP : IsP K mg (He.ga K "Puzzle") := ⟨clP, g_Puzzle, He.eqO_ok i1, sg, tk, of_decide_eq_true i2, of_decide_eq_true i3, of_decide_eq_true i4, of_decide_eq_true i5, of_decide_eq_true i6, of_decide_eq_true i7, of_decide_eq_true i8⟩
  have ec := c.c
  have ec1 : clW K dBP.at_ = dBP.val := (List.cons.inj ec).1
  have ec2 : clW K dTM.at_ = dTM.val := (List.cons.inj (List.cons.inj ec).2).1
  obtain ⟨fdB, EB, fiB, tyB, ccB, cdB, kVB, docB, pmB, ctB, anB, efB⟩ := sup_of (w := w) (mg := mg) (d := dBP) (st := sBPInit) rfl ec1 lB rfl oB cB (He.eqO_ok opq) T.super
  obtain ⟨fdT, ET, fiT, tyT, ccT, cdT, kVT, docT, pmT, ctT, anT, efT⟩ := sup_of (w := w) (mg := mg) (d := dTM) (st := sTMInit) rfl ec2 lT rfl oT cT (He.eqO_ok opq) T.super
  have bB : Binds K fdB ["self", "part"] [] := by
    rw [efB]
    exact .all fun us hl => match us, hl with | [_, _], _ => rfl
  have bT : Binds K fdT ["self", "what", "most"] [] := by
    rw [efT]
    exact .all fun us hl => match us, hl with | [_, _, _], _ => rfl
  have FJ : FunC K mg "_law_joined_right" sJR (He.ga K "_law_joined_right") (He.cT K ("_law_joined_right", none)).1 ["_law_weft_here", "_law_one_here", "_law_other"] := funC_of (p := ("_law_joined_right", none)) F__law_joined_right g__law_joined_right fun _ _ _ _ _ _ us hl => match us, hl with | [_, _, _], _ => rfl
  have FL : FunC K mg "law" sLaw (He.ga K "law") (He.cT K ("law", none)).1 ["_law_script"] := funC_of (p := ("law", none)) F_law g_law fun _ _ _ _ _ _ us hl => match us, hl with | [_], _ => rfl
  have eL : fL = He.ga K "law" := by
    have e := hfa.symm.trans g_law
    cases e
    rfl
  subst eL
  have nT : ¬ (He.cT K ("_law_joined_right", none)).2 = (He.cT K ("law", none)).2 := by simpa using x0
  refine ⟨tf.map (He.cT K), fun p hp => ?_, fun p hp => ?_, fun p hp => ?_, ?_⟩
  · obtain ⟨q, hq, rfl⟩ := List.mem_map.mp hp
    exact c.x.empty q hq
  · obtain ⟨q, hq, rfl⟩ := List.mem_map.mp hp
    exact c.x.out q hq
  · obtain ⟨q, hq, rfl⟩ := List.mem_map.mp hp
    exact PySem.W.codeHd_of_K X (c.x.hd q hq)
  intro s a ns base hlen KB NB TBs H e0 hH hS
  have D_is_integer : Df PP w K mg base CX0 "is_integer" 1 ["value"] spIsInt := ⟨_, _, ok_isInt U_is_integer T, g_is_integer, U_is_integer.kp, b_is_integer⟩
  have D_is_within : Df PP w K mg base CX0 "is_within" 2 ["value", "least", "most"] spWithin := ⟨_, _, ok_within U_is_within D_is_integer, g_is_within, U_is_within.kp, b_is_within⟩
  have D_need_number : Df PP w K mg base CX0 "need_number" 3 ["value", "part", "least", "most"] spNeedNum := ⟨_, _, ok_needNum U_need_number D_is_within, g_need_number, U_need_number.kp, b_need_number⟩
  have D_written : Df PP w K mg base CX0 "written" 1 ["item"] spWritten := ⟨_, _, ok_written U_written T GT, g_written, U_written.kp, b_written⟩
  have D_kinds_behind : Df PP w K mg base CX0 "kinds_behind" 3 ["kinds", "item"] spKinds := ⟨_, _, ok_kinds U_kinds_behind T GD Z D_written D_is_within, g_kinds_behind, U_kinds_behind.kp, b_kinds_behind⟩
  have D_rest_of : Df PP w K mg base CX0 "rest_of" 1 ["one", "other"] spRestOf := ⟨_, _, ok_restOf U_rest_of T, g_rest_of, U_rest_of.kp, b_rest_of⟩
  have D_made_of : Df PP w K mg base CX0 "made_of" 2 ["item", "below", "top"] spMade := ⟨_, _, ok_made U_made_of D_rest_of, g_made_of, U_made_of.kp, b_made_of⟩
  have D_pile_behind : Df PP w K mg base CX0 "pile_behind" 3 ["pile", "item", "given", "answer"] spPile := ⟨_, _, ok_pile U_pile_behind T GD Z D_written D_made_of, g_pile_behind, U_pile_behind.kp, b_pile_behind⟩
  have D_piles_along : Df PP w K mg base CX0 "piles_along" 4 ["puzzle", "given", "answer"] (spAlong (He.ga K "Puzzle")) := ⟨_, _, ok_along U_piles_along T Pz D_pile_behind, g_piles_along, U_piles_along.kp, b_piles_along⟩
  have D_right_for : Df PP w K mg base CX0 "right_for" 5 ["puzzle", "given", "answer"] (spRight (He.ga K "Puzzle")) := ⟨_, _, ok_right U_right_for D_piles_along, g_right_for, U_right_for.kp, b_right_for⟩
  have D_need_both : Df PP w K mg base CX0 "need_both" 4 ["given", "answer"] spNeedB := ⟨_, _, ok_needB U_need_both Z D_need_number, g_need_both, U_need_both.kp, b_need_both⟩
  have MI : Ms PP w K mg base "Scan" (He.ga K "Scan") 1 ["self", "text"] (spScInit (He.ga K "Scan")) := ⟨_, _, He.mkr_ok (c.x.t.d.fact 67 (f := .mkr "Scan") rfl), ok_scInit U_Scan___init__ T S, g_Scan, b_Scan___init__⟩
  have MA : Mt PP w K mg base (He.ga K "Scan") "ahead" 1 ["self"] (spScAhead (He.ga K "Scan")) := ⟨_, _, He.meth_ok (c.x.t.d.fact 65 (f := .meth "Scan" "ahead") rfl), ok_scAhead U_Scan_ahead T S, b_Scan_ahead⟩
  have MT : Mt PP w K mg base (He.ga K "Scan") "take" 2 ["self"] (spScTake (He.ga K "Scan")) := ⟨_, _, He.meth_ok (c.x.t.d.fact 66 (f := .meth "Scan" "take") rfl), ok_scTake U_Scan_take T S MA, b_Scan_take⟩
  have M : Ms PP w K mg base "Puzzle" (He.ga K "Puzzle") 4 ["self", "text"] (spPzInit (He.ga K "Puzzle")) := ⟨_, _, He.mkr_ok (c.x.t.d.fact 68 (f := .mkr "Puzzle") rfl), ok_pzInit U_Puzzle___init__ T Z S Pz MI MA MT D_kinds_behind, g_Puzzle, b_Puzzle___init__⟩
  have XB : Xc PP w K mg base "BadPuzzle" (He.ga K "BadPuzzle") ["self", "part"] (spBP (He.ga K "BadPuzzle")) := ⟨_, _, oexB_ok oB, fiB, tyB, ok_bp EB (He.eqO_ok pB), bB, g_BadPuzzle⟩
  have XT : Xc PP w K mg base "TooMany" (He.ga K "TooMany") ["self", "what", "most"] (spTM (He.ga K "TooMany")) := ⟨_, _, oexB_ok oT, fiT, tyT, ok_tm ET (He.eqO_ok pW) (He.eqO_ok pM), bT, g_TooMany⟩
  have FN : FunD K "need_puzzle" "need_puzzle" (defArgs sNeedP) (defBody sNeedP) (defScope sNeedP) [.str "puzzle"] [] (He.ga K "need_puzzle") fd_need_puzzle := F_need_puzzle
  have NPz : NP PP w K mg base (He.ga K "Puzzle") (He.ga K "BadPuzzle") := by
    obtain ⟨ds1, v1, q1⟩ := FN.binds1 (ps := ["value", "part"]) 1 0 (by simp) rfl fun T kV doc pm an cdv ct us its hu hi => match us, hu, its, hi with | [_], _, [_], _ => ⟨_, rfl, rfl⟩
    obtain ⟨ds2, v2, q2⟩ := FN.binds1 (ps := ["value", "part"]) 2 1 (by simp) rfl fun T kV doc pm an cdv ct us its hu hi => match us, hu, its, hi with | [_, _], _, [_], _ => ⟨_, rfl, rfl⟩
    cases v2
    exact ⟨_, _, ds1, ok_needP FN T IP XB, g_need_puzzle, FN.kp, q2, v1, q1⟩
  have D_joined : Df PP w K mg base (L2.CX PP w) "joined" 6 ["texts"] (spJoined (He.ga K "Puzzle") (He.ga K "TooMany")) := ⟨_, _, ok_joined U_joined T Z M XT, g_joined, U_joined.kp, b_joined⟩
  have D_is_right : Df PP w K mg base CX0 "is_right" 6 ["puzzle", "given", "answer"] (spIsR (He.ga K "Puzzle")) := ⟨_, _, ok_isR U_is_right NPz D_need_both D_right_for, g_is_right, U_is_right.kp, b_is_right⟩
  have D2B : TwoD PP w K mg base (He.ga K "Puzzle") (He.ga K "BadPuzzle") (He.ga K "TooMany") .and "both_of" ["one", "other"] (fun _ zs => zs) := ⟨_, _, fun _ ws => ws, ok_both U_both_of NPz Pz D_joined, g_both_of, U_both_of.kp, b_both_of, kbn_of U_both_of (fun _ _ _ _ _ _ ws hl => match ws, hl with | [_, _], _ => rfl) (fun _ r => r)⟩
  have D2E : TwoD PP w K mg base (He.ga K "Puzzle") (He.ga K "BadPuzzle") (He.ga K "TooMany") .or "either_of" ["other", "one"] gSwap := ⟨_, _, gSw, ok_either U_either_of NPz Pz D_joined, g_either_of, U_either_of.kp, b_either_of, kbn_of U_either_of (fun _ _ _ _ _ _ ws hl => match ws, hl with | [_, _], _ => rfl) gSw_rel⟩
  have DTu : TurnD PP w K mg base (He.ga K "Puzzle") (He.ga K "BadPuzzle") (He.ga K "TooMany") := ⟨_, _, fun _ ws => ws, ok_turned U_turned_of NPz Pz D_joined, g_turned_of, U_turned_of.kp, b_turned_of, kbn_of U_turned_of (fun _ _ _ _ _ _ ws hl => match ws, hl with | [_], _ => rfl) (fun _ r => r)⟩
  have D__law_weft : Df PP w K mg base CX0 "_law_weft" 1 ["_law_script"] (spWeft K) := ⟨_, _, ok_weft U__law_weft T, g__law_weft, U__law_weft.kp, b__law_weft⟩
  have D__law_throw : Df PP w K mg base CX0 "_law_throw" 1 ["_law_weft_here", "_law_many"] spThrow := ⟨_, _, ok_throw U__law_throw T, g__law_throw, U__law_throw.kp, b__law_throw⟩
  have D__law_one : Df PP w K mg base CX0 "_law_one" 2 ["_law_weft_here", "_law_some"] spOne := ⟨_, _, ok_one U__law_one T D__law_throw, g__law_one, U__law_one.kp, b__law_one⟩
  have D__law_count : Df PP w K mg base CX0 "_law_count" 5 ["_law_weft_here", "_law_deep"] (spCount 2) := ⟨_, _, ok_count U__law_count T D__law_throw D__law_one g__law_count b__law_count 2 (by decide), g__law_count, U__law_count.kp, b__law_count⟩
  have D__law_truth : Df PP w K mg base CX0 "_law_truth" 8 ["_law_weft_here", "_law_deep"] (spTruth 2) := ⟨_, _, ok_truth U__law_truth T D__law_throw D__law_one D__law_count g__law_truth b__law_truth 2 (by decide), g__law_truth, U__law_truth.kp, b__law_truth⟩
  have D__law_check : Df PP w K mg base CX0 "_law_check" 9 ["_law_weft_here", "_law_deep"] spCheck := ⟨_, _, ok_check U__law_check T D__law_truth, g__law_check, U__law_check.kp, b__law_check⟩
  have D__law_long : Df PP w K mg base CX0 "_law_long" 2 ["_law_weft_here", "_law_items"] spLong := ⟨_, _, ok_long U__law_long T D__law_throw, g__law_long, U__law_long.kp, b__law_long⟩
  have D__law_rest : Df PP w K mg base CX0 "_law_rest" 1 ["_law_one_here", "_law_other"] spLRest := ⟨_, _, ok_lrest U__law_rest T, g__law_rest, U__law_rest.kp, b__law_rest⟩
  have D__law_behind : Df PP w K mg base CX0 "_law_behind" 2 ["_law_pile", "_law_item", "_law_given", "_law_answer"] spBehind := ⟨_, _, ok_behind U__law_behind T D__law_rest, g__law_behind, U__law_behind.kp, b__law_behind⟩
  have D__law_piles : Df PP w K mg base CX0 "_law_piles" 3 ["_law_items", "_law_given", "_law_answer"] spLPiles := ⟨_, _, ok_lpiles U__law_piles T D__law_behind, g__law_piles, U__law_piles.kp, b__law_piles⟩
  have D__law_is_right : Df PP w K mg base CX0 "_law_is_right" 4 ["_law_items", "_law_given", "_law_answer"] spLIsR := ⟨_, _, ok_lisr U__law_is_right D__law_piles, g__law_is_right, U__law_is_right.kp, b__law_is_right⟩
  have HD : HeardD K mg := ⟨_, _, U__law_heard, g__law_heard, b__law_heard⟩
  have m1 : He.cT K ("_law_joined_right", none) ∈ tf.map (He.cT K) := List.mem_map.mpr ⟨_, by simp [tf], rfl⟩
  have m2 : He.cT K ("law", none) ∈ tf.map (He.cT K) := List.mem_map.mpr ⟨_, by simp [tf], rfl⟩
  obtain ⟨ocL, odL, kVL, docL, pmL, anL, ctL, oslL, lkL, bL⟩ := FL.ex
  have e0' := bL s [.ref a] (e0.mod.kin.keeps fun b o e => (e0.bs b o e).1) rfl
  refine run_ofS (CX := CX0) (N := NL) (ps := ["_law_script"]) (us := [.ref a]) (vs := [.ref a]) (k := 10) lkL FL.cd scLaw ⟨rfl, by decide, by decide⟩ e0 e0' (.cons rfl .nil) rfl fun hr' => ?_
  obtain ⟨t, ht, hq⟩ := law_body (TT0 := [((He.cT K ("_law_joined_right", none)).2, (("_law_joined_right" ++ ".<locals>." : Str) ++ "<lambda>" : Str)), ((He.cT K ("law", none)).2, (("law" ++ ".<locals>." : Str) ++ "<lambda>" : Str))])
    T HF Pz IP M D__law_throw D2B D2E DTu D_is_right D__law_is_right HD (TBs _ m1) (by simp) (fun p hp hz => by
      simp only [List.mem_cons, List.not_mem_nil, or_false] at hp
      rcases hp with rfl | rfl
      · rfl
      · exact absurd hz.symm nT) (TBs _ m2) (by simp) (fun p hp hz => by
      simp only [List.mem_cons, List.not_mem_nil, or_false] at hp
      rcases hp with rfl | rfl
      · exact absurd hz nT
      · rfl) FJ D__law_weft D__law_one D__law_check D__law_long (A := callerA) rfl [] s H [.ref a] (fun v _ => v = .bl true) hr' ⟨a, ns, rfl, hS, hlen, fun p hp => by
      simp only [List.mem_cons, List.not_mem_nil, or_false] at hp
      rcases hp with rfl | rfl
      · exact .nil (hH _ m1)
      · exact .nil (hH _ m2), fun _ => rfl⟩
  exact ⟨t, ht.nox, hq⟩
end Dt
open PySem PySem.W PySem.Calls PyProof.Rows
theorem PySem.Challenge.cw_duetickers_k28_whole_puzzles_joined_holds : PySem.Challenge.rw_duetickers_k28_whole_puzzles_joined.Holds := by
  w_on; o_law
  refine HandSHeadRun.head_any (r := OpenLaw.row PySem.Challenge.rw_duetickers_k28_whole_puzzles_joined) (q := view (OpenLaw.row PySem.Challenge.rw_duetickers_k28_whole_puzzles_joined).prog [53]) (H := Dt.hk) (ob := Dt.ob) (M := 8000) (loose := Dt.loose) (d := HandSHeadRun.topDef (OpenLaw.row PySem.Challenge.rw_duetickers_k28_whole_puzzles_joined).prog 53) (kwd := []) Dt.ob_eq
    (by kernel_rfl) (fun s => by kernel_rfl) Dt.run (by kernel_rfl) (by kernel_rfl) (by kernel_rfl) (by rfl) (by first | assumption | decide +kernel) (by decide +kernel) ⟨rfl, rfl, rfl, rfl, rfl, by decide +kernel⟩ ?hw ?hc
  case hw => w_witness2
  case hc =>
    refine Att.attach_callB (l := PySem.Challenge.rw_duetickers_k28_whole_puzzles_joined) (n := 63) rfl (by kernel_rfl) fun w s₀ s₁ mg mb fa o pm cd doc a vs ns G Y ho hd hcd hmg hobj hints hlen hbits hg => ?_
    obtain ⟨K, KX, c⟩ := Y
    have hmg2 : mg ("law" : PySem.Str) = some (.ref fa) := by
      have e : (HandSHeadRun.topDef (OpenLaw.row PySem.Challenge.rw_duetickers_k28_whole_puzzles_joined).prog 53).name = ("law" : PySem.Str) := by kernel_rfl
      rw [← e]
      exact hmg
    obtain ⟨cs, e1, e2, e3, F⟩ := Dt.facts KX G.T.g hmg2 c
    exact Dt.law_callQ KX G.T.g G.T.b G.T.builtins G.T.nolimit hg e1 e2 e3 G.T.bmain hobj hints (Nat.le_trans hlen (by decide)) fun base hK hN hTB H e0 hH hS => F s₁ a ns base hlen hK hN hTB H e0 hH hS
