import PyProof.Rows.All
import Wide.All
import OpenK.AllK
import Wide.FinOn
import PyProof.ReprRoads
import HandS.ForMost
import HandS.Codes
import HandS.More
import HandS.HeadEnd
import PyProof.CallType
import PyProof.Conv_bool
import PyProof.InstNe
import OpenK.KOps
import OpenK.KDescr
import OpenK.KCls
import KE.KTypeName
import HandS.IsInst
import PyProof.ReprLen
import KE.DataEq
import HandS.OwnEq
import HandS.Steps
import HandS.Evl
import HandS.Walk
import KE.KStateDown
import KE.KSuper
import HandS.Star
import HandS.Defaults
import PyProof.Rows.SetFrom
import HandS.Set
import HandS.Strs
import HandS.SortInts
import HandS.Wide
import HandS.MakeKwOnly
import HandS.TryOnly
import PySem.Challenge.RW_deepasdrawn_k10_papers_and_checks
import HandS.HeadHook1
import HandS.HeadHook2
import Lean
import HandS.Head0
import HandS.Head1
import HandS.Head2
set_option Elab.async false
set_option linter.all false
set_option maxRecDepth 100000
set_option maxHeartbeats 4000000
/-! ### repr of data, where it is known that no repr is under way -/
namespace OwnL
open PySem PySem.Spec PyProof.Rows L2
section
variable {X : Cx}
def rReprD (K : PySem.W.Frag) : List V → Hp → VK → Prop := fun xs H Q => ∃ x d, xs = [x] ∧ Dp K H x d ∧ SeqAt.shaped d = true ∧ d.showable = true ∧ d.shown.length ≤ sizeLine ∧ Q (.str d.shown) H
theorem call_reprD (hg : X.A.guards = some []) (hu : X.A.units + 80 < cLine) : CallR X (.builtin "repr") (rReprD X.K) := by
  intro pins s σ H xs us Q I r h
  obtain ⟨x, d, rfl, hd, hl, hs, hz, q⟩ := h
  obtain ⟨u, rfl, rx⟩ := vals1 r
  obtain ⟨as, rd⟩ := Dp.reads I d x u hd rx
  have hno : d.hasDict = true → sysModules ∉ as := PyData.noDict_hsm (PyData.hasDict_of_canLay d (SeqAt.canLay_of_shaped hl))
  have hdp := SeqAt.depth_of_shaped hl
  have top : ∀ a, u = .ref a → wpAny (model X.prog X.w) X.A (call (.builtin "repr") [u]) (EP X pins σ Q) X.xe s := fun a e => by
    subst e
    exact PySem.repr_of_reads' rd hs hno hg (by omega) (fun _ _ e => e) (fun h' u tk hk => ⟨.str _, H, I.kept hk, ⟨_, rfl⟩, q⟩) hz
  cases hd with
  | non =>
    cases rx
    simp only [PyData.shown] at q
    exact PySem.P.repr_of_none ⟨.str _, H, I.tok _, ⟨_, rfl⟩, q⟩
  | bl b =>
    cases rx
    simp only [PyData.shown] at q
    exact PySem.P.repr_of_bool ⟨.str _, H, I.tok _, ⟨_, rfl⟩, q⟩
  | int i =>
    obtain ⟨t, rfl⟩ := rx
    simp only [PyData.shown] at q
    exact PySem.P.repr_of_int (by simpa [PyData.showable] using hs) ⟨.str _, H, I.tok _, ⟨_, rfl⟩, q⟩
  | str y =>
    obtain ⟨t, rfl⟩ := rx
    simp only [PyData.shown] at q
    exact PySem.P.repr_of_str ⟨.str _, H, I.tok _, ⟨_, rfl⟩, q⟩ (by simpa only [PyData.shown] using hz)
  | lst hs' ha => cases rx; exact top _ rfl
  | tup hs' ha => cases rx; exact top _ rfl
end
/-! ### a def that leans on it: what it promises holds where no repr is under way -/
structure FnG (P : Program) (w : World) (K : PySem.W.Frag) (mg : Str → Option Value) (base : Heap) (CX : CXT) (k : Nat) (f : Addr) (fd : FuncData) (ps : List Str) (sp : Sp) : Prop where
  many : ∀ vs H Q E, sp vs H Q E → vs.length = ps.length
  goes : ∀ (A : Around) (outer : List Env) (s : Shared) (H : Hp) (ar : Args) (us : List Value) (vs : List V) (Q : VK) (E : XK), A.guards = some [] → Room k A → Env0 P w K mg base A outer s H → BindsTo s fd ar (ps.zip us) → Vals vs us → sp vs H Q E →
    codeAny (model P w) A (.call (.ref f) ar) (CR CX outer P w H s Q E) s
theorem FnG.of {P : Program} {w : World} {K : PySem.W.Frag} {mg : Str → Option Value} {base : Heap} {CX : CXT} {k : Nat} {f : Addr} {fd : FuncData} {ps : List Str} {sp : Sp} (F : FnOk P w K mg base CX k f fd ps sp) : FnG P w K mg base CX k f fd ps sp :=
  ⟨F.len, fun A outer s H ar us vs Q E _ hr => F.run A outer s H ar us vs Q E hr⟩
theorem fn_g {CX : CXT} {P : Program} {w : World} {K : PySem.W.Frag} {mg : Str → Option Value} {base : Heap} {k : Nat} {f : Addr} {name qual : Str} {params : Arguments} {body : List Stmt} {sc : Scope} {dV kV doc pm cdv ct oc : Value} {an od : Option Addr}
    {osl : Array (Option Value)} {N ps : List Str} {sp : Sp} (at_ : K.lookup f = some ⟨oc, od, .func (PySem.W.fnOf name qual params body sc dV kV doc pm an cdv ct), osl⟩) (code : PySem.W.codeIn K cdv qual = true) (S : FnScope N ps sc)
    (many : ∀ vs H Q E, sp vs H Q E → vs.length = ps.length)
    (hb : ∀ (A : Around) (outer : List Env) (s : Shared) (H : Hp) (vs : List V) (Q : VK) (E : XK), A.guards = some [] → Room k (A.deeper (envOfC qual sc s.heap.objs.size f cdv)) → sp vs H Q E →
      ∃ t, PSs (cxOf CX P w K mg base N qual sc f cdv A outer s H E) body t ∧ t { nx := fun _ H' => Q .non H', rt := Q } (L2.start N vs) H) :
    FnG P w K mg base CX (k + 1) f (PySem.W.fnOf name qual params body sc dV kV doc pm an cdv ct) ps sp := by
  refine ⟨many, fun A outer s H ar us vs Q E hg hr z0 bnd rel hsp => ?_⟩
  have long := many _ _ _ _ hsp
  have inK : K.In s.heap := z0.mod.kin.keeps fun b o e => (z0.bs b o e).1
  have free : s.heap.NoLimit := z0.mod.nolimit.keeps fun b o e => (z0.bs b o e).1
  have kinds : ∀ y ∈ ps.zip us, sc.names.lookup y.1 = some .local ∨ (sc.names.lookup y.1 = some .cell ∧ ((cellsFrom (s.heap.objs.size + 1) sc.names []).lookup y.1).isSome = true) := fun ⟨n, v⟩ hy =>
    (S.par n (List.of_mem_zip hy).1).elim .inl fun q => .inr ⟨q, PySem.W.cellsFrom_some _ _ _ (.inl q)⟩
  refine codeAny_call_function hr.depth (inK _ _ at_) rfl S.co S.gen rfl (PySem.W.codeRec_of inK code) (bnd _ _ _ _ ?_)
  refine wpAny_newFunctionEnv_cells S.kind kinds fun env he s1 x => ?_
  subst he
  refine ⟨free.keeps x.toInCall.keep, codeAny_func ?_⟩
  obtain ⟨t, ht, tq⟩ := hb A outer s H vs Q E hg (hr.deeper _) hsp
  have I0 : Inv (cxOf CX P w K mg base N qual sc f cdv A outer s H E) [] (L2.start N vs) H s1 := inv_start S hr.hd z0 long rel x
  refine wpAny_mono (ht.run [] s1 (L2.start N vs) H _ I0 tq) (fun fl s' done => ?_) fun e s' done => done
  have fin : ∀ {σ' : L2.St} {H' : Hp} {v : V} {u : Value}, Inv (cxOf CX P w K mg base N qual sc f cdv A outer s H E) [] σ' H' s' → RelV v u → Q v H' → CE outer P w H s Q u s' :=
    fun {σ' H' v u} J rv q => ⟨v, H', J.os, J.bare, J.base, J.hok, rv, q⟩
  match fl, done with
  | .ret u, ⟨v, σ', H', J, rv, q⟩ => exact fin J rv q
  | .next, ⟨σ', H', J, q⟩ => exact fin (v := V.non) (u := Value.none) J rfl q
  | .brk, ⟨_, _, _, q⟩ => exact False.elim q
  | .cont, ⟨_, _, _, q⟩ => exact False.elim q
section
variable {P : Program} {w : World} {K : PySem.W.Frag} {mg : Str → Option Value} {base : Heap}
theorem okG {x qual : Str} {st : Stmt} {f : Addr} {fd : FuncData} {N ps : List Str} {k : Nat} {sp : Sp} (F : L2.Fun K x qual st f fd) (S : FnScope N ps (defScope st)) (many : ∀ vs H Q E, sp vs H Q E → vs.length = ps.length)
    (hb : ∀ (cdv : Value) (A : Around) (outer : List Env) (s : Shared) (H : Hp) (vs : List V) (Q : VK) (E : XK), A.guards = some [] → Room k (A.deeper (envOfC qual (defScope st) s.heap.objs.size f cdv)) → sp vs H Q E →
      ∃ t, PSs (cxOf CX0 P w K mg base N qual (defScope st) f cdv A outer s H E).nox (defBody st) t ∧ t { nx := fun _ H' => Q .non H', rt := Q } (L2.start N vs) H) : FnG P w K mg base CX0 (k + 1) f fd ps sp := by
  obtain ⟨oc, od, kV, doc, pm, an, cdv, ct, osl, rfl, lk, code⟩ := F.ex
  refine fn_g lk code S many fun A outer s H vs Q E hg hr hsp => ?_
  obtain ⟨t, h, q⟩ := hb cdv A outer s H vs Q E hg hr hsp
  exact ⟨t, h.nox, q⟩
end
section
variable {X : Cx} {CX : CXT} {k : Nat} {f : Addr} {fd : FuncData} {ps : List Str} {sp : Sp} {dvs : List V} {ds : List Value} {E : XK} {x : Str} {p pos : Pos} {e : Expr} {es : List Expr} {t : TA}
theorem run_g {pins : List (Addr × Obj)} {σ : L2.St} {H : Hp} {s : Shared} {Q : VK} {us : List Value} {vs : List V} (F : FnG X.prog X.w X.K X.mg X.base CX k f fd ps sp) (gd : X.A.guards = some []) (hr : Room k X.A) (hb : Binds X.K fd ps ds) (hd : Vals dvs ds) (hx : Passes CX X E)
    (I : Inv X pins σ H s) (rel : Vals vs us) (hsp : sp (vs ++ dvs) H Q E) : wpAny (model X.prog X.w) X.A (call (.ref f) us) (EP X pins σ Q) X.xe s := by
  have r2 : Vals (vs ++ dvs) (us ++ ds) := rel.append hd
  have long : (us ++ ds).length = ps.length := by rw [← r2.length]; exact F.many _ _ _ _ hsp
  refine wpAny_call (codeAny_mono (F.goes X.A X.stack s H ⟨us, []⟩ (us ++ ds) (vs ++ dvs) Q E gd hr I.env0 (hb s us I.kIn long) r2 hsp) fun r s' hq => ?_)
  match r, hq with
  | .error e, hq => exact hx pins σ H s e s' I hq
  | .ok (.ret u), hq => exact I.after hq
theorem pe_callG (F : FnG X.prog X.w X.K X.mg X.base CX k f fd ps sp) (gd : X.A.guards = some []) (hr : Room k X.A) (hg : Gl X x) (hm : X.mg x = some (.ref f)) (kp : PySem.W.keepIn X.K (.ref f) = true) (hb : Binds X.K fd ps ds) (hd : Vals dvs ds) (hx : Passes CX X E)
    (ha : PA X (e :: es) t) (hdb : (x == ("__debug__" : Str)) = false := by decide) (he : starEach (e :: es) X.env = (false, eval e X.env) :: starEach es X.env := by rfl) (hpl : (backTo pos (starEach es X.env)).any (·.1) = false := by rfl) :
    PE X (.Call (.Name x p) (e :: es) [] pos) (tCall sp dvs E t) := by
  refine ⟨fun pins s σ H Q I h => wpAny_Call_Name_kw (ld_glob I hg hm ?_ hdb)⟩
  refine PySem.W.callWith_K (h₀ := X.base) I.ok.mod.kin kp (thn (ha.run pos pins s σ H _ I h) fun us s1 ⟨vs, H1, I1, r, q⟩ => ⟨I1.kIn, run_g F gd hr hb hd hx I1 r q⟩) he hpl
end
end OwnL

/-! ### the end, for a law's def that is known where no repr is under way -/
namespace OwnL
open PySem PySem.Spec PyProof.Rows L2
section
variable {P : Program} {w : World} {K : PySem.W.Frag} {mg mb : Str → Option Value} {CX : CXT} {k : Nat} {fa a : Addr} {fd : FuncData} {x : Str} {sp : Sp} {s₁ : Shared} {its : List Value} {ns : List Int}
/-- from an abstract heap that tracks the script at most -/
theorem end_from (inK : K.In s₁.heap) (nsM : s₁.heap.Ns mainGlobals mg) (nsB : s₁.heap.Ns builtinsNs mb) (boots : ∀ x : Str, x ≠ "__name__" → mb x = bootBuiltins x) (free : s₁.heap.NoLimit) (still : s₁.gens = #[])
    (at_ : s₁.heap.get? a = some { cls := .type "list", data := .seq its.toArray }) (hr : Room k callerA)
    (F : ∀ base : Heap, K.In base → base.Ns mainGlobals mg → FnG P w K mg base CX k fa fd [x] sp) (bnd : ∀ (s : Shared) (u : Value), BindsTo s fd ⟨[u], []⟩ [(x, u)])
    (noX : ∀ H e s', CX [] H s₁ (fun _ _ _ => False) e s' → False)
    (H : Hp) (only : Only H) (here : ∀ b, H b ≠ none → b = a) (apart : H a ≠ none → K.lookup a = none) (hok : HOk P w H s₁.heap) (hsp : sp [.ref a] H (fun v _ => v = .bl true) fun _ _ _ => False) :
    codeAny (model P w) callerA (.call (.ref fa) ⟨[.ref a], []⟩) (fun r s' => r = .ok (.ret (.bool true)) ∧ OldK s₁.heap s'.heap ∧ s'.os = s₁.os ∧ AllBare s'.gens) s₁ := by
  have is_a : ∀ {b : Addr} {u : HO}, H b = some u → b = a := fun {b u} q => here b (by rw [q]; exact nofun)
  have dictless : ∀ {b : Addr} {o : Obj} {es : Array DictEntry} {ep : Nat}, s₁.heap.get? b = some o → o.data = .dict es ep → H b = none := fun {b o es ep} e d => by
    cases q : H b with
    | none => rfl
    | some u =>
      have e' := is_a q
      subst e'
      rw [at_] at e
      have d' : ({ cls := .type "list", data := .seq its.toArray } : Obj).data = .dict es ep := (congrArg Obj.data (Option.some.inj e)).trans d
      cases d'
  have nsT : ∀ {b : Addr} {m : Str → Option Value}, s₁.heap.Ns b m → (hidT s₁.heap H).Ns b m := fun {b m} ⟨o, es, ep, e, d, r⟩ => ⟨o, es, ep, hidT_get e (dictless e d), d, r⟩
  have inT : K.In (hidT s₁.heap H) := fun b o e => hidT_get (inK b o e) (by
    cases q : H b with
    | none => rfl
    | some u =>
      have e' := is_a q
      subst e'
      have := apart (by rw [q]; exact nofun)
      rw [this] at e
      cases e)
  obtain ⟨mc, lim, lim2⟩ := free
  have md : Mod K mg (hidT s₁.heap H) := ⟨inT, nsT nsM, ⟨mb, nsT nsB, boots⟩, ⟨mc, nsT lim, lim2⟩⟩
  have z0 : Env0 P w K mg (hidT s₁.heap H) callerA [] s₁ H := ⟨rfl, md, fun b o e => of_hidT e, Nat.le_of_eq (hidT_size _ _), trivial, fun b hb => (List.not_mem_nil hb).elim, hok, .of_eq still⟩
  refine codeAny_mono ((F _ inT (nsT nsM)).goes callerA [] s₁ H ⟨[.ref a], []⟩ [.ref a] [.ref a] _ _ rfl hr z0 (bnd s₁ (.ref a)) (.cons rfl .nil) hsp) fun r s' h => ?_
  match r, h with
  | .error e, h => exact (noX H e s' h).elim
  | .ok (.ret u), ⟨v, H', os, bare, un, hok', rv, q⟩ =>
    have q' : v = .bl true := q
    subst q'
    obtain rfl : u = Value.bool true := rv
    refine ⟨rfl, OldK.of_keep fun b o e => ?_, os, bare⟩
    cases q : H b with
    | none => exact un.keep b o e q (fun z => (List.not_mem_nil z).elim) (by simp)
    | some u =>
      rcases only b with z | ⟨ob, xs, z⟩
      · rw [q] at z; cases z
      · have e1 : s₁.heap.get? b = some ob := (hok b _ z).1
        have e2 : s'.heap.get? b = some ob := (hok' b _ (un.frzs b ob _ z)).1
        rw [e] at e1
        rw [e2, e1]
theorem law_callG (inK : K.In s₁.heap) (nsM : s₁.heap.Ns mainGlobals mg) (nsB : s₁.heap.Ns builtinsNs mb) (boots : ∀ x : Str, x ≠ "__name__" → mb x = bootBuiltins x) (free : s₁.heap.NoLimit) (still : s₁.gens = #[])
    (at_ : s₁.heap.get? a = some { cls := .type "list", data := .seq its.toArray }) (isI : IntsAre its ns) (few : ns.length ≤ sizeLine) (hr : Room k callerA)
    (F : ∀ base : Heap, K.In base → base.Ns mainGlobals mg → FnG P w K mg base CX k fa fd [x] sp) (bnd : ∀ (s : Shared) (u : Value), BindsTo s fd ⟨[u], []⟩ [(x, u)])
    (hsp : ∀ H : Hp, Only H → SqL K H a (ns.map V.int) → sp [.ref a] H (fun v _ => v = .bl true) fun _ _ _ => False)
    (noX : ∀ H e s', CX [] H s₁ (fun _ _ _ => False) e s' → False) :
    codeAny (model P w) callerA (.call (.ref fa) ⟨[.ref a], []⟩) (fun r s' => r = .ok (.ret (.bool true)) ∧ OldK s₁.heap s'.heap ∧ s'.os = s₁.os ∧ AllBare s'.gens) s₁ := by
  have rv := vals_ints isI
  have long := isI.length
  cases hk : K.lookup a with
  | some o =>
    have e := inK a o hk
    rw [at_] at e
    cases e
    have onl : Only (fun _ => none) := fun _ => .inl rfl
    exact end_from inK nsM nsB boots free still at_ hr F bnd noX (fun _ => none) onl (fun b z => absurd rfl z) (fun z => absurd rfl z) (fun b u z => nomatch (show (none : Option HO) = some u from z))
      (hsp _ onl (.inr ⟨_, its.toArray, _, hk, rfl, rfl, rfl, by rw [List.size_toArray, long]; exact few, by simpa using rv⟩))
  | none =>
    have onl : Only (fun b => if b = a then some (.frz { cls := .type "list", data := .seq its.toArray } (.lst (ns.map V.int))) else none) := fun b => by
      by_cases hb : b = a
      · exact .inr ⟨_, _, if_pos hb⟩
      · exact .inl (if_neg hb)
    refine end_from inK nsM nsB boots free still at_ hr F bnd noX _ onl (fun b z => ?_) (fun _ => hk) (fun b u z => ?_) (hsp _ onl (.inl (.inr ⟨{ cls := .type "list", data := .seq its.toArray }, if_pos rfl⟩)))
    · by_cases hb : b = a
      · exact hb
      · exact absurd (if_neg hb) z
    · by_cases hb : b = a
      · have z' := (if_pos hb).symm.trans z
        cases z'
        subst hb
        exact ⟨at_, by rw [List.length_map]; exact few, its, _, rv, at_⟩
      · have z' := (if_neg hb).symm.trans z
        cases z'
end
theorem walk_ofG {l : PySem.W.OpenLaw} {n k : Nat} {q : Program} {loose : List Str} {XP : (Str → Option Value) → Heap → Prop} {YP : World → Heap → Prop} {d : DefRec} {CX : CXT} {x : Str}
    (hn : l.most = some n) (hn2 : n ≤ sizeLine) (hdf : d.params.defaults = []) (hr : Room k callerA)
    (F : ∀ (w : World) (mg : Str → Option Value) (fa : Addr) (h : Heap), YP w h → h.Ns mainGlobals mg → mg d.name = some (.ref fa) →
      ∃ (K : PySem.W.Frag) (fd : FuncData) (sp : Sp), K.In h ∧ (∀ (s : Shared) (u : Value), BindsTo s fd ⟨[u], []⟩ [(x, u)]) ∧
        (∀ (H : Hp) (a : Addr) (ns : List Int), ns.length ≤ n → Only H → SqL K H a (ns.map V.int) → sp [.ref a] H (fun v _ => v = .bl true) fun _ _ _ => False) ∧
        ∀ base : Heap, K.In base → base.Ns mainGlobals mg → FnG l.prog w K mg base CX k fa fd [x] sp)
    (noX : ∀ (H : Hp) (s : Shared) (e : Value) (s' : Shared), CX [] H s (fun _ _ _ => False) e s' → False) :
    PySem.W.WalkO q loose XP YP l.row.toRowW d [] (fun f vs => PySem.call f vs) := by
  refine Att.attach_call hn hdf fun w s₀ s₁ mg mb fa o pm cd doc a its ns G Y ho hd hcd hmg hobj isI few still => ?_
  obtain ⟨K, fd, sp, inK, bnd, hsp, hF⟩ := F w mg fa _ Y G.T.g hmg
  exact law_callG inK G.T.g G.T.b G.T.builtins G.T.nolimit still hobj isI (Nat.le_trans few hn2) hr hF bnd (fun H hO hS => hsp H a ns few hO hS) fun H e s' => noX H s₁ e s'
end OwnL

/-! ### own classes: bool(x), ==, != by own methods, x.__class__.__name__, o.f as a target among several -/
namespace OwnL
open PySem PySem.Spec PyProof.Rows L2
section
variable {prog : Program} {w : World} {A : Around} {E : Value → Shared → Prop} {s : Shared}
theorem bool_new_ref {x : Addr} {R : Result → Shared → Prop} (h : wpAny (model prog w) A.in1 (truthy (.ref x)) (fun b s' => R (.ok (.ret (.bool b))) s') (fun e s' => R (.error e) s') s) :
    wpAny (model prog w) A.in1 (Builtin.«bool.__new__» ⟨[.type "bool", .ref x], []⟩) (fun fin s' => match fin with | .done f => R (.ok f) s' | .again c' => c'.quiet = true ∧ codeAny (model prog w) A c' R s') (fun e s' => R (.error e) s') s := by
  obtain ⟨hp, g, d, tk, os⟩ := s
  have f1 := F.conv_sub_bool
  repeat (any_goals (first | assumption | (with_reducible refine wpAny_mono h ?_ ?_) | wp_step))
  all_goals first | (intro _ _ z; exact z) | skip
  all_goals first | (intro b s' z; repeat (any_goals (first | assumption | wp_step))) | skip
theorem call_bool_own {x : Addr} {Q : Value → Shared → Prop} (h : wpAny (model prog w) A.in1.in1 (truthy (.ref x)) (fun b s' => Q (.bool b) s') E s) : wpAny (model prog w) A (call (.type "bool") [.ref x]) Q E s := by
  have ft := F.called_bool
  obtain ⟨c, tl, hmro⟩ := ft.mro
  have hmade := ft.made
  have hsub := ft.sub
  refine wpAny_call (codeAny_of_tree ?_)
  show wpAny _ _ (callAny (.type "bool") _) _ _ _
  refine wpAny_pure ⟨Code.quiet_builtin _ (by decide +kernel), codeAny_builtin F.entry_type_call ?_⟩
  rw [Around.under_plain (weight_type_call_type "bool" [.ref x] []) (units_type_call_type "bool" [.ref x] [])]
  have h1 := ft.notType
  have h2 := ft.canCreate
  have hct := F.typeCall_bool_1 (.ref x)
  repeat (any_goals (first | assumption | wp_step))
  refine codeAny_mono (codeAny_call_builtin (R := wants (fun v s' => (∃ b, v = .bool b) ∧ Q v s') E) ft.plain F.entry_bool_new (wpAny_of_eq (F.newCall_bool_1 (.ref x)) (bool_new_ref (R := wants (fun v s' => (∃ b, v = .bool b) ∧ Q v s') E) (wpAny_mono h (fun b s' z => ⟨⟨b, rfl⟩, z⟩) fun e s' z => z)))) fun r s₁ hr => ?_
  match r, hr with
  | .error e, hr => exact hr
  | .ok (.ret obj), ⟨⟨b, hb⟩, hq⟩ =>
    subst hb
    have hT : s₁.TypeIs (.bool b) "bool" := by rfl
    have hli := ft.init.lookup
    have hbi := ft.init.bind (.bool b)
    repeat (any_goals (first | assumption | wp_step))
    refine codeAny_mono (codeAny_call_builtin ft.init.plain F.entry_object_init (ft.init.check _ _ _ _ _ _ _ _ hT (F.args_object_init_2 (.bool b) (.ref x)) (object_init_meets ft.init.lookup ft.made F.newNe_bool prog w A.in1 (wants (fun r s₂ => r = .none ∧ Q (.bool b) s₂) E) s₁ ⟨hT, rfl, hq⟩))) fun r₂ s₂ hr₂ => ?_
    match r₂, hr₂ with
    | .error e, hr₂ => exact hr₂
    | .ok (.ret r), ⟨hr, hq⟩ =>
      subst hr
      repeat (any_goals (first | assumption | wp_step))
end
section
variable {X : Cx} {pins : List (Addr × Obj)} {σ : L2.St} {H : Hp} {s : Shared}
/-- bool(x), x of a class with an own __bool__ at f that promises True or False -/
def rBoolI (K : PySem.W.Frag) (f : Addr) (sp : Sp) (E : XK) : List V → Hp → VK → Prop := fun xs H Q => ∃ a C dx fs, xs = [.ref a] ∧ H a = some (.ins C dx fs) ∧ PySem.W.findIn K (.ref C) "__bool__" = some (some (.ref f)) ∧
  sp [.ref a] H (fun v H' => (∃ b, v = .bl b) ∧ Q v H') E
/-- where another A stands: the same stack, no more room needed than there is -/
theorem env0_at {A : Around} (I : Inv X pins σ H s) (fr : A.frames = X.A.frames) : Env0 X.prog X.w X.K X.mg X.base A X.stack s H := by
  have e := I.env0
  exact ⟨by rw [fr]; exact e.frames, e.mod, e.bs, e.bsz, e.funs, e.frf, e.hok, e.bare⟩
/-- a method is called by the model itself -/
theorem run_at {CX : CXT} {A : Around} {k : Nat} {f : Addr} {fd : FuncData} {ps : List Str} {sp : Sp} {E : XK} {us : List Value} {vs : List V} {Q : VK} (F : FnOk X.prog X.w X.K X.mg X.base CX k f fd ps sp) (hb : Binds X.K fd ps []) (hx : Passes CX X E) (hr : Room k A) (fr : A.frames = X.A.frames)
    (I : Inv X pins σ H s) (rel : Vals vs us) (hsp : sp vs H Q E) : wpAny (model X.prog X.w) A (call (.ref f) us) (EP X pins σ Q) X.xe s := by
  have long : us.length = ps.length := by rw [← rel.length]; exact F.len _ _ _ _ hsp
  have bnd := hb s us I.kIn (by simpa using long)
  rw [List.append_nil] at bnd
  refine wpAny_call (codeAny_mono (F.run A X.stack s H ⟨us, []⟩ us vs Q E hr (env0_at I fr) bnd rel hsp) fun r s' hq => ?_)
  match r, hq with
  | .error e, hq => exact hx pins σ H s e s' I hq
  | .ok (.ret u), hq => exact I.after hq
theorem call_boolI {CX : CXT} {k : Nat} {f : Addr} {fd : FuncData} {ps : List Str} {sp : Sp} {E : XK} (F : FnOk X.prog X.w X.K X.mg X.base CX k f fd ps sp) (hf : PySem.W.isFn X.K (.ref f) = true) (hb : Binds X.K fd ps []) (hx : Passes CX X E) (hr : Room (k + 2) X.A) :
    CallR X (.type "bool") (rBoolI X.K f sp E) := by
  intro pins s σ H xs us Q I r h
  obtain ⟨a, C, dx, fs, rfl, ha, hs, hsp⟩ := h
  obtain ⟨u, rfl, ru⟩ := vals1 r
  cases ru
  obtain ⟨mA, J, _⟩ := ins_get I.hok ha
  obtain ⟨od, J, _⟩ := J.look
  obtain ⟨m, hF⟩ := I.fr
  refine call_bool_own (PySem.W.truthy_K hF I.ok.mod.kin J hs hf (wpAny_mono (run_at (vs := [V.ref a]) F hb hx (A := X.A.in1.in1) (Room.in1 (Room.in1 hr)) rfl I (.cons rfl .nil) hsp) (fun v s' z => ?_) fun e s' z => z))
  obtain ⟨y, H', I', ry, ⟨b, rfl⟩, q⟩ := z
  cases ry
  exact ⟨.bl b, H', I', rfl, q⟩
/-- x == y of instances, by the == at f of x's class -/
def rEqI (K : PySem.W.Frag) (f : Addr) (sp : Sp) (E : XK) : R2 := fun x y H Q => ∃ a b C D dx dy fs gs, x = .ref a ∧ y = .ref b ∧ H a = some (.ins C dx fs) ∧ H b = some (.ins D dy gs) ∧ PySem.W.findIn K (.ref C) "__eq__" = some (some (.ref f)) ∧ PySem.W.notFirst K C (.ref D) = true ∧
  sp [.ref a, .ref b] H (fun v H' => (∃ c, v = .bl c) ∧ Q v H') E
theorem op_eqI {CX : CXT} {k : Nat} {f : Addr} {fd : FuncData} {ps : List Str} {sp : Sp} {E : XK} (F : FnOk X.prog X.w X.K X.mg X.base CX k f fd ps sp) (hf : PySem.W.isFn X.K (.ref f) = true) (hb : Binds X.K fd ps []) (hx : Passes CX X E) (hr : Room k X.A) :
    OpR X (compareOp .Eq) (rEqI X.K f sp E) := by
  intro pins s σ H x y v u Q I rx ry h
  obtain ⟨a, b, C, D, dx, dy, fs, gs, rfl, rfl, ha, hb', hs, hn, hsp⟩ := h
  cases rx
  cases ry
  obtain ⟨mA, J, _⟩ := ins_get I.hok ha
  obtain ⟨mB, J', _⟩ := ins_get I.hok hb'
  obtain ⟨od, J, _⟩ := J.look
  obtain ⟨od', J', _⟩ := J'.look
  obtain ⟨m, hF⟩ := I.fr
  refine PySem.W.cmp_K (op := .Eq) (tb := .ref D) hr.units0 hF I.ok.mod.kin J J'.type hn hs hf (wpAny_mono (run_at (vs := [V.ref a, V.ref b]) F hb hx (A := X.A) hr rfl I (.cons rfl (.cons rfl .nil)) hsp) (fun v s' z => ?_) fun e s' z => z)
  obtain ⟨y, H', I', ry, ⟨c, rfl⟩, q⟩ := z
  cases ry
  exact ⟨.bl c, H', I', rfl, q⟩
end
/-! != by an own ==: object.__ne__ asks it -/
section
open PySem.W
variable {prog : Program} {w : World} {A : Around} {E : Value → Shared → Prop} {s : Shared} {K : Frag} {x C L f : Addr} {h₀ : Heap} {m : Str → Option Value} {ox : Obj} {od : Option Obj} {name : Str} {b tb : Value}
theorem bound_builtin {M : Model} {T id : String} {args : List Value} {Q : Option Value → Shared → Prop} (S : Slot T name id) (XK : K.In s.heap) (I : InstAt s.heap x ox C od) (hs : findIn K (.ref C) name = some (some (.builtin id)))
    (h : wpAny M A (call (.builtin id) (.ref x :: args)) (fun v => Q (some v)) E s) : wpAny M A (callSpecialIfBound? (.ref x) name args) Q E s := by
  unfold callSpecialIfBound? bindSpecialIfBound?
  refine wpAny_holding (wpAny_bind (wpAny_bind (wpAny_bind (I.type.here ((looks_findIn XK hs).here ?_)))))
  simp only [S.bind]
  have fin : wpAny M A (call (.builtin id) ([.ref x] ++ args) >>= fun v => pure (some v)) Q E s := wpAny_bind (wpAny_mono h (fun v s' z => wpAny_pure z) fun _ _ z => z)
  refine wpAny_bind (wpAny_askSetting (wpAny_ite ?_))
  split
  · exact wpAny_bind (wpAny_pure (wpAny_pure fin))
  · exact wpAny_tryCatch (wpAny_bind (wpAny_pure (wpAny_pure fin)))
theorem ne_entry {Q : Fin → Shared → Prop} (hu : A.units < cLine) (XK : K.In s.heap) (I : InstAt s.heap x ox C od) (hs : findIn K (.ref C) "__eq__" = some (some (.ref f))) (hf : isFn K (.ref f) = true)
    (h : wpAny (model prog w) A (call (.ref f) [.ref x, b]) (fun v s' => ∃ c, v = .bool c ∧ Q (.done (.ret (.bool (!c)))) s') E s) :
    wpAny (model prog w) A (Builtin.«object.__ne__» ⟨[.ref x, b], []⟩) Q E s := by
  unfold Builtin.«object.__ne__»
  repeat (first
    | with_reducible refine wpAny_cRoomFor hu ?_
    | (refine wpAny_bind (m := callSpecialIfBound? (.ref x) (Str.ofString "__eq__") [b]) (ifBound_K XK I hs hf (wpAny_mono h (fun r s' hr => by
          obtain ⟨c, rfl, hq⟩ := hr
          repeat (first | exact hq | exact wpAny_pure hq | exact wpAny_truthy_bool hq | (refine wpAny_bind (m := truthy (.bool _)) (wpAny_truthy_bool ?_)) | wp_step)) fun _ _ e => e)))
    | wp_step)
theorem ne_K {Q : Value → Shared → Prop} (hu : A.units + 1 < cLine) (F : Fr h₀ L s.heap m) (X₀ : K.In h₀) (I : InstAt s.heap x ox C od) (hb : Looks (model prog w) s.heap (typeOf b) tb) (hn : notFirst K C tb = true)
    (hne : findIn K (.ref C) "__ne__" = some (some (.builtin "object.__ne__"))) (hm : mroIn K C (.type "object") = some true) (hs : findIn K (.ref C) "__eq__" = some (some (.ref f))) (hf : isFn K (.ref f) = true)
    (h : wpAny (model prog w) A.in1 (call (.ref f) [.ref x, b]) (fun v s' => ∃ c, v = .bool c ∧ Q (.bool (!c)) s') E s) : wpAny (model prog w) A (richCompare .NotEq (.ref x) b) Q E s := by
  have XK := X₀.keeps F.keep
  have once : wpAny (model prog w) A (tryCompare (.ref x) (cmpInfo .NotEq).2.1 b) (fun r s' => ∃ v, r = some v ∧ Q v s') E s := by
    show wpAny _ _ (tryCompare (.ref x) "__ne__" b) _ _ _
    unfold tryCompare
    refine wpAny_bind (bound_builtin PySem.F.cmp_object.ne XK I hne (wpAny_call (codeAny_call_builtin PySem.F.cmp_object.ne.plain PySem.F.cmpEntry_ne
      (check_slot PySem.F.cmpKind_ne PySem.F.cmpSplit_ne (I.type.andThen (looks_mroIn XK hm)) (PySem.F.cmpArgs_ne _ _) (ne_entry (A := A.in1) hu XK I hs hf (wpAny_mono h (fun v s' hv => ?_) fun _ _ e => e))))))
    obtain ⟨c, rfl, hq⟩ := hv
    exact ⟨c, rfl, wpAny_pure ⟨_, rfl, hq⟩⟩
  unfold richCompare
  simp only [oneThing_ref]
  refine wpAny_holding (wpAny_bind (wpAny_cRoomFor (Nat.lt_of_succ_lt hu) ?_))
  refine wpAny_bind (I.type.here (wpAny_bind (hb.here ?_)))
  have rest : wpAny (model prog w) A (tryCompare (.ref x) (cmpInfo .NotEq).2.1 b) (fun r s' => ∃ v, r = some v ∧ Q v s') E s := once
  split
  · rename_i q
    have e : subIn K tb (.ref C) = some false := by
      rcases Bool.or_eq_true_iff.mp hn with e | e
      · rw [beq_iff_eq.mp e] at q; simp at q
      · exact beq_iff_eq.mp e
    refine wpAny_bind ((looks_subIn XK e).here ?_)
    simp only [Bool.false_eq_true, if_false]
    refine wpAny_bind (wpAny_mono rest (fun r s' z => ?_) fun _ _ e => e)
    obtain ⟨v, rfl, hq⟩ := z
    exact wpAny_pure hq
  · refine wpAny_bind (wpAny_pure ?_)
    simp only [Bool.false_eq_true, if_false]
    refine wpAny_bind (wpAny_mono rest (fun r s' z => ?_) fun _ _ e => e)
    obtain ⟨v, rfl, hq⟩ := z
    exact wpAny_pure hq
end
section
variable {X : Cx}
def rNeI (K : PySem.W.Frag) (f : Addr) (sp : Sp) (E : XK) : R2 := fun x y H Q => ∃ a b C D dx dy fs gs, x = .ref a ∧ y = .ref b ∧ H a = some (.ins C dx fs) ∧ H b = some (.ins D dy gs) ∧ PySem.W.findIn K (.ref C) "__eq__" = some (some (.ref f)) ∧ PySem.W.notFirst K C (.ref D) = true ∧
  PySem.W.findIn K (.ref C) "__ne__" = some (some (.builtin "object.__ne__")) ∧ PySem.W.mroIn K C (.type "object") = some true ∧
  sp [.ref a, .ref b] H (fun v H' => ∃ c, v = .bl c ∧ Q (.bl (!c)) H') E
theorem op_neI {CX : CXT} {k : Nat} {f : Addr} {fd : FuncData} {ps : List Str} {sp : Sp} {E : XK} (F : FnOk X.prog X.w X.K X.mg X.base CX k f fd ps sp) (hf : PySem.W.isFn X.K (.ref f) = true) (hb : Binds X.K fd ps []) (hx : Passes CX X E) (hr : Room (k + 1) X.A) :
    OpR X (compareOp .NotEq) (rNeI X.K f sp E) := by
  intro pins s σ H x y v u Q I rx ry h
  obtain ⟨a, b, C, D, dx, dy, fs, gs, rfl, rfl, ha, hb', hs, hn, hne, hm, hsp⟩ := h
  cases rx
  cases ry
  obtain ⟨mA, J, _⟩ := ins_get I.hok ha
  obtain ⟨mB, J', _⟩ := ins_get I.hok hb'
  obtain ⟨od, J, _⟩ := J.look
  obtain ⟨od', J', _⟩ := J'.look
  obtain ⟨m, hF⟩ := I.fr
  have hu := hr.un
  refine ne_K (tb := .ref D) (by omega) hF I.ok.mod.kin J J'.type hn hne hm hs hf (wpAny_mono (run_at (vs := [V.ref a, V.ref b]) F hb hx (A := X.A.in1) (Room.in1 hr) rfl I (.cons rfl (.cons rfl .nil)) hsp) (fun v s' z => ?_) fun e s' z => z)
  obtain ⟨y, H', I', ry, c, rfl, q⟩ := z
  cases ry
  exact ⟨c, rfl, .bl (!c), H', I', rfl, q⟩
end
/-! x.__class__.__name__ -/
structure ClsNm (K : PySem.W.Frag) (C : Addr) (nm : Str) : Prop where
  cd : ∃ c, PySem.W.clsIn K C = some c
  ga : PySem.W.findIn K (.ref C) "__getattribute__" = some (some (.builtin "object.__getattribute__"))
  gx : PySem.W.findIn K (.ref C) "__getattr__" = some none
  fc : PySem.W.findIn K (.ref C) "__class__" = some (some (.builtin "object.__class__"))
  sg : PySem.W.specialIn K (.builtin "object.__class__") "__get__" = some (some (.builtin "getset_descriptor.__get__"))
  tk : PySem.W.takesIn K (.builtin "object.__class__") = some true
  mo : PySem.W.mroIn K C (.type "object") = some true
  ty : PySem.W.typeIn K (.ref C) = some (.type "type")
  rd : PySem.W.readsIn K C (.type "type") = true
  fn : PySem.W.findCls K (.ref C) (.type "type") "__name__" = some (.get (.builtin "getset_descriptor.__get__") (.builtin "type.__name__") (.ref C) (.type "type"))
  at_ : ∃ o t, K.lookup C = some o ∧ (o.slots[2]?).join = some (.str nm t)
section
open PySem.W
variable {prog : Program} {w : World} {A : Around} {E : Value → Shared → Prop} {s : Shared} {K : Frag} {x C : Addr} {nm : Str} {ox : Obj} {od : Option Obj} {R : Result → Shared → Prop}
theorem get_class {expr : Bool} {Q : Value → Shared → Prop} (N : ClsNm K C nm) (XK : K.In s.heap) (I : InstAt s.heap x ox C od) (h : ∀ u, Q (.ref C) { s with toks := u }) : wpAny (model prog w) A (getAttr (.ref x) "__class__" expr) Q E s := by
  obtain ⟨c, hc⟩ := N.cd
  have hf : findObj K C od "__class__" = some (.bind (.builtin "getset_descriptor.__get__") (.builtin "object.__class__")) := by
    unfold findObj
    rw [hc, Option.bind_some, N.fc, Option.bind_some]
    simp only [N.sg, Option.bind_some, N.tk]
  refine get_bind XK I N.ga hf N.gx (wpAny_call (class_get (s := { s with toks := s.toks + 1 }) XK I N.mo ?_))
  exact handed_on rfl (h _)
theorem name_get {tp : Value} (N : ClsNm K C nm) (XK : K.In s.heap) (h : ∀ t, R (.ok (.ret (.str nm t))) s) :
    codeAny (model prog w) A (.call (.builtin "getset_descriptor.__get__") ⟨[.builtin "type.__name__", .ref C, tp], []⟩) R s := by
  obtain ⟨hh, g, dr, t, os⟩ := s
  obtain ⟨o, tok, ho, hs⟩ := N.at_
  have L0 : Looks (model prog w) hh (typeOf (.ref C)) (.type "type") := looks_typeIn XK N.ty
  have L1 : Looks (model prog w) hh (isSubtype (.type "type") (.type "type")) true := Looks.of_pure (by rw [isSubtype_type]; kernel_rfl)
  have L2 : Looks (model prog w) hh (PySem.slotAt C 2) (some (.str nm tok)) := by
    unfold PySem.slotAt
    refine (Looks.ld (XK C o ho)).andThen ?_
    rw [hs]
    exact .now
  refine codeAny_call_builtin KF.slot_gs.plain KF.entry_gs (KF.slot_gs.check _ _ _ _ _ _ _ _ ktyn_type (KF.args_gs _ _ _) ?_)
  unfold Builtin.«getset_descriptor.__get__» Builtin.Getset_descriptor.descrGet
  rw [dga_obj]
  refine wpAny_bind (wpAny_pure ?_)
  unfold Builtin.Getset_descriptor.descrGetter Builtin.Getset_descriptor.descrCheckInstance Builtin.Getset_descriptor.descrNameAndClass isInstance
  simp only [ktyn_owner]
  repeat lk
  refine ⟨Code.quiet_builtin _ (by decide +kernel), codeAny_builtin ktyn_entry ?_⟩
  unfold Builtin.«type.__name__» Builtin.keptObject
  repeat lk
  exact h _
theorem get_name {expr : Bool} {Q : Value → Shared → Prop} (N : ClsNm K C nm) (XK : K.In s.heap) (h : ∀ t u, Q (.str nm t) { s with toks := u }) : wpAny (model prog w) A (getAttr (.ref C) "__name__" expr) Q E s := by
  refine cls_bind XK N.rd N.fn (wpAny_call (name_get (s := { s with toks := s.toks + 1 }) N XK fun t => ?_))
  exact handed_on rfl (h _ _)
end
section
variable {X : Cx} {e : Expr} {p1 p2 : Pos} {ta : TE}
def tClsNm (K : PySem.W.Frag) (ta : TE) : TE := fun σ H Q => ta σ H fun x H1 => ∃ a C dx fs nm, x = .ref a ∧ H1 a = some (.ins C dx fs) ∧ ClsNm K C nm ∧ Q (.str nm) H1
theorem pe_clsNm (he : PE X e ta) (h1 : attributeBase e "__class__" X.env (eval e X.env) = eval e X.env)
    (h2 : attributeBase (.Attribute e "__class__" p1) "__name__" X.env (eval (.Attribute e "__class__" p1) X.env) = eval (.Attribute e "__class__" p1) X.env) : PE X (.Attribute (.Attribute e "__class__" p1) "__name__" p2) (tClsNm X.K ta) := by
  refine ⟨fun pins s σ H Q I h => attr_of h2 (attr_of h1 (thn (he.run pins s σ H _ I h) fun u s1 ⟨x, H1, I1, rx, a, C, dx, fs, nm, ex, ea, N, q⟩ => ?_))⟩
  subst ex
  obtain rfl : u = Value.ref a := rx
  obtain ⟨mA, J, _⟩ := ins_get I1.hok ea
  obtain ⟨od, J, _⟩ := J.look
  refine get_class N I1.kIn J fun t => ?_
  exact get_name N (s := { s1 with toks := t }) I1.kIn fun t' u' => ⟨.str nm, H1, I1.tok _, ⟨_, rfl⟩, q⟩
/-- o.f as a target among several -/
def gFld (K : PySem.W.Frag) (to : TE) (f : Str) : TG := fun v σ H Q => to σ H fun x H1 => ∃ a C dx fs, x = .ref a ∧ H1 a = some (.ins C dx fs) ∧ Cls K C ∧ NoAttr K C f ∧ fs.length < 1000 ∧ Q σ (upd H1 a (.ins C dx (putF f v fs)))
theorem pg_fld {f : Str} {to : TE} (ho : PE X e to)
    (ha : ∀ v, assign (.Attribute e f p1) X.env v = (do
      let ov ← holding [v] (eval e X.env)
      standAt p1.atName
      holding [v, ov] (setAttr ov f v)
      release [v, ov] []) := by intro _; rfl) : PG X (.Attribute e f p1) (gFld X.K to f) := by
  refine ⟨fun pins s σ H v u Q I r h => ?_⟩
  rw [ha]
  refine wpAny_bind (wpAny_holding (thn (ho.run pins s σ H _ I h) fun ov s1 ⟨x, H1, I1, r1, a, C, dx, fs, ex, ea, c, n, l, q⟩ => ?_))
  subst ex
  obtain rfl : ov = Value.ref a := r1
  refine wpAny_bind (wpAny_standAt (wpAny_bind (wpAny_holding (setattr_ok I1 ea c n l r fun s3 I3 => ?_))))
  exact wpAny_release ⟨σ, _, I3, q⟩
end
end OwnL

/-! ### data: lists made tuples all the way in; how great it is; seen by a heap that grows, or beside one object that changes -/
namespace OwnL
open PySem PySem.Spec PyProof.Rows L2
mutual
def tupd : PyData → PyData
  | .list xs => .tuple (tupdAll xs)
  | .tuple xs => .tuple (tupdAll xs)
  | .none => .none
  | .bool b => .bool b
  | .int i => .int i
  | .str x => .str x
  | .dict k => .dict k
def tupdAll : List PyData → List PyData
  | [] => []
  | x :: xs => tupd x :: tupdAll xs
end
theorem tupdAll_map : ∀ xs : List PyData, tupdAll xs = xs.map tupd
  | [] => rfl
  | x :: xs => by rw [tupdAll, tupdAll_map xs]; rfl
mutual
theorem tupd_tupd : ∀ d : PyData, tupd (tupd d) = tupd d
  | .list xs => by simp only [tupd]; rw [tupdAll_tupdAll xs]
  | .tuple xs => by simp only [tupd]; rw [tupdAll_tupdAll xs]
  | .none => rfl
  | .bool _ => rfl
  | .int _ => rfl
  | .str _ => rfl
  | .dict _ => rfl
theorem tupdAll_tupdAll : ∀ xs : List PyData, tupdAll (tupdAll xs) = tupdAll xs
  | [] => rfl
  | x :: xs => by simp only [tupdAll]; rw [tupd_tupd x, tupdAll_tupdAll xs]
end
mutual
theorem tupd_depth : ∀ d : PyData, (tupd d).depth = d.depth
  | .list xs => by simp only [tupd, PyData.depth]; rw [tupdAll_depth xs]
  | .tuple xs => by simp only [tupd, PyData.depth]; rw [tupdAll_depth xs]
  | .none => rfl
  | .bool _ => rfl
  | .int _ => rfl
  | .str _ => rfl
  | .dict _ => rfl
theorem tupdAll_depth : ∀ xs : List PyData, PyData.depthAll (tupdAll xs) = PyData.depthAll xs
  | [] => rfl
  | x :: xs => by simp only [tupdAll, PyData.depthAll]; rw [tupd_depth x, tupdAll_depth xs]
end
mutual
theorem tupd_weight : ∀ d : PyData, (tupd d).weight = d.weight
  | .list xs => by simp only [tupd, PyData.weight]; rw [tupdAll_weight xs]
  | .tuple xs => by simp only [tupd, PyData.weight]; rw [tupdAll_weight xs]
  | .none => rfl
  | .bool _ => rfl
  | .int _ => rfl
  | .str _ => rfl
  | .dict _ => rfl
theorem tupdAll_weight : ∀ xs : List PyData, PyData.weightAll (tupdAll xs) = PyData.weightAll xs
  | [] => rfl
  | x :: xs => by simp only [tupdAll, PyData.weightAll]; rw [tupd_weight x, tupdAll_weight xs]
end
mutual
theorem tupd_canLay : ∀ d : PyData, (tupd d).canLay0 = d.canLay0
  | .list xs => by simp only [tupd, PyData.canLay0]; rw [tupdAll_canLay xs]
  | .tuple xs => by simp only [tupd, PyData.canLay0]; rw [tupdAll_canLay xs]
  | .none => rfl
  | .bool _ => rfl
  | .int _ => rfl
  | .str _ => rfl
  | .dict _ => rfl
theorem tupdAll_canLay : ∀ xs : List PyData, PyData.canLayAll0 (tupdAll xs) = PyData.canLayAll0 xs
  | [] => rfl
  | x :: xs => by simp only [tupdAll, PyData.canLayAll0]; rw [tupd_canLay x, tupdAll_canLay xs]
end
mutual
theorem tupd_showable : ∀ d : PyData, (tupd d).showable = d.showable
  | .list xs => by simp only [tupd, PyData.showable]; rw [tupdAll_showable xs]
  | .tuple xs => by simp only [tupd, PyData.showable]; rw [tupdAll_showable xs]
  | .none => rfl
  | .bool _ => rfl
  | .int _ => rfl
  | .str _ => rfl
  | .dict _ => rfl
theorem tupdAll_showable : ∀ xs : List PyData, PyData.showableAll (tupdAll xs) = PyData.showableAll xs
  | [] => rfl
  | x :: xs => by simp only [tupdAll, PyData.showableAll]; rw [tupd_showable x, tupdAll_showable xs]
end
mutual
theorem tupd_short (B : Nat) : ∀ d : PyData, (tupd d).leavesShort B = d.leavesShort B
  | .list xs => by simp only [tupd, PyData.leavesShort]; rw [tupdAll_short B xs]
  | .tuple xs => by simp only [tupd, PyData.leavesShort]; rw [tupdAll_short B xs]
  | .none => rfl
  | .bool _ => rfl
  | .int _ => rfl
  | .str _ => rfl
  | .dict _ => rfl
theorem tupdAll_short (B : Nat) : ∀ xs : List PyData, PyData.leavesShortAll B (tupdAll xs) = PyData.leavesShortAll B xs
  | [] => rfl
  | x :: xs => by simp only [tupdAll, PyData.leavesShortAll]; rw [tupd_short B x, tupdAll_short B xs]
end
/-- at most so deep, so great; its words can be written and are short -/
structure Small (n W : Nat) (d : PyData) : Prop where
  dp : d.depth ≤ n
  wt : d.weight ≤ W
  cl : d.canLay0 = true
  sh : d.showable = true
  lv : d.leavesShort 44 = true
theorem Small.tupd {n W : Nat} {d : PyData} (s : Small n W d) : Small n W (tupd d) := ⟨by rw [tupd_depth]; exact s.dp, by rw [tupd_weight]; exact s.wt, by rw [tupd_canLay]; exact s.cl, by rw [tupd_showable]; exact s.sh, by rw [tupd_short]; exact s.lv⟩
theorem Small.mono {n m W V : Nat} {d : PyData} (s : Small n W d) (h : n ≤ m) (k : W ≤ V) : Small m V d := ⟨Nat.le_trans s.dp h, Nat.le_trans s.wt k, s.cl, s.sh, s.lv⟩
theorem Small.shaped {n W : Nat} {d : PyData} (s : Small n W d) (h : n ≤ 64) : SeqAt.shaped d = true := by
  show (d.canLay0 && decide (d.depth ≤ 64)) = true
  rw [s.cl]
  simpa using Nat.le_trans s.dp h
theorem Small.fits {n W : Nat} {d : PyData} (s : Small n W d) (h : W ≤ 300000) : d.shown.length ≤ sizeLine := by
  have h1 := PyData.shown_le 44 (by decide) d s.lv
  have h2 : d.weight ≤ 300000 := Nat.le_trans s.wt h
  have h3 : (44 + 2) * d.weight ≤ (44 + 2) * 300000 := Nat.mul_le_mul (Nat.le_refl _) h2
  rw [sizeLine_eq]
  omega
/-- a row of such -/
inductive Smalls (n W : Nat) : List PyData → Prop
  | nil : Smalls n W []
  | cons {d : PyData} {ds : List PyData} : Small n W d → Smalls n W ds → Smalls n W (d :: ds)
theorem Smalls.all {n W : Nat} : ∀ {ds : List PyData}, Smalls n W ds → PyData.depthAll ds ≤ n ∧ PyData.weightAll ds ≤ ds.length * (W + 1) ∧ PyData.canLayAll0 ds = true ∧ PyData.showableAll ds = true ∧ PyData.leavesShortAll 44 ds = true
  | _, .nil => ⟨Nat.zero_le _, by simp [PyData.weightAll], rfl, rfl, rfl⟩
  | _, .cons (d := d) (ds := ds) s r => by
    obtain ⟨h1, h2, h3, h4, h5⟩ := r.all
    refine ⟨?_, ?_, ?_, ?_, ?_⟩
    · simp only [PyData.depthAll]; exact Nat.max_le.mpr ⟨s.dp, h1⟩
    · simp only [PyData.weightAll, List.length_cons]
      have := s.wt
      rw [Nat.succ_mul]
      omega
    · simp only [PyData.canLayAll0, s.cl, h3, Bool.and_self]
    · simp only [PyData.showableAll, s.sh, h4, Bool.and_self]
    · simp only [PyData.leavesShortAll, s.lv, h5, Bool.and_self]
theorem Smalls.list {n W V : Nat} {ds : List PyData} (s : Smalls n W ds) (h : ds.length * (W + 1) ≤ V) : Small (n + 1) V (.list ds) := by
  obtain ⟨h1, h2, h3, h4, h5⟩ := s.all
  exact ⟨by simp only [PyData.depth]; omega, by simp only [PyData.weight]; omega, by simpa only [PyData.canLay0] using h3, by simpa only [PyData.showable] using h4, by simpa only [PyData.leavesShort] using h5⟩
theorem Smalls.tuple {n W V : Nat} {ds : List PyData} (s : Smalls n W ds) (h : ds.length * (W + 1) ≤ V) : Small (n + 1) V (.tuple ds) := by
  obtain ⟨h1, h2, h3, h4, h5⟩ := s.all
  exact ⟨by simp only [PyData.depth]; omega, by simp only [PyData.weight]; omega, by simpa only [PyData.canLay0] using h3, by simpa only [PyData.showable] using h4, by simpa only [PyData.leavesShort] using h5⟩
mutual
theorem plain_of : ∀ d : PyData, d.canLay0 = true → d.plain = true
  | .list xs, h => by simp only [PyData.plain]; exact plainAll_of xs (by simpa only [PyData.canLay0] using h)
  | .tuple xs, h => by simp only [PyData.plain]; exact plainAll_of xs (by simpa only [PyData.canLay0] using h)
  | .none, _ => rfl
  | .bool _, _ => rfl
  | .int _, _ => rfl
  | .str _, _ => rfl
  | .dict _, h => by simp [PyData.canLay0] at h
theorem plainAll_of : ∀ xs : List PyData, PyData.canLayAll0 xs = true → PyData.plainAll xs = true
  | [], _ => rfl
  | x :: xs, h => by
    have h' : x.canLay0 = true ∧ PyData.canLayAll0 xs = true := by simpa [PyData.canLayAll0] using h
    simp only [PyData.plainAll, plain_of x h'.1, plainAll_of xs h'.2, Bool.and_self]
end
/-! what is equal is equally deep -/
mutual
theorem eqv_depth : ∀ a b : PyData, PyData.eqv a b = true → a.depth = b.depth
  | .list xs, .list ys, h => by
    simp only [PyData.depth]
    rw [eqvAll_depth xs ys (by simpa only [PyData.eqv] using h)]
  | .tuple xs, .tuple ys, h => by
    simp only [PyData.depth]
    rw [eqvAll_depth xs ys (by simpa only [PyData.eqv] using h)]
  | .none, .none, _ => rfl
  | .bool _, .bool _, _ => rfl
  | .bool _, .int _, _ => rfl
  | .int _, .bool _, _ => rfl
  | .int _, .int _, _ => rfl
  | .str _, .str _, _ => rfl
  | .list _, .none, h => by simp [PyData.eqv] at h
  | .list _, .bool _, h => by simp [PyData.eqv] at h
  | .list _, .int _, h => by simp [PyData.eqv] at h
  | .list _, .str _, h => by simp [PyData.eqv] at h
  | .list _, .tuple _, h => by simp [PyData.eqv] at h
  | .list _, .dict _, h => by simp [PyData.eqv] at h
  | .tuple _, .none, h => by simp [PyData.eqv] at h
  | .tuple _, .bool _, h => by simp [PyData.eqv] at h
  | .tuple _, .int _, h => by simp [PyData.eqv] at h
  | .tuple _, .str _, h => by simp [PyData.eqv] at h
  | .tuple _, .list _, h => by simp [PyData.eqv] at h
  | .tuple _, .dict _, h => by simp [PyData.eqv] at h
  | .none, .bool _, h => by simp [PyData.eqv] at h
  | .none, .int _, h => by simp [PyData.eqv] at h
  | .none, .str _, h => by simp [PyData.eqv] at h
  | .none, .list _, h => by simp [PyData.eqv] at h
  | .none, .tuple _, h => by simp [PyData.eqv] at h
  | .none, .dict _, h => by simp [PyData.eqv] at h
  | .bool _, .none, h => by simp [PyData.eqv] at h
  | .bool _, .str _, h => by simp [PyData.eqv] at h
  | .bool _, .list _, h => by simp [PyData.eqv] at h
  | .bool _, .tuple _, h => by simp [PyData.eqv] at h
  | .bool _, .dict _, h => by simp [PyData.eqv] at h
  | .int _, .none, h => by simp [PyData.eqv] at h
  | .int _, .str _, h => by simp [PyData.eqv] at h
  | .int _, .list _, h => by simp [PyData.eqv] at h
  | .int _, .tuple _, h => by simp [PyData.eqv] at h
  | .int _, .dict _, h => by simp [PyData.eqv] at h
  | .str _, .none, h => by simp [PyData.eqv] at h
  | .str _, .bool _, h => by simp [PyData.eqv] at h
  | .str _, .int _, h => by simp [PyData.eqv] at h
  | .str _, .list _, h => by simp [PyData.eqv] at h
  | .str _, .tuple _, h => by simp [PyData.eqv] at h
  | .str _, .dict _, h => by simp [PyData.eqv] at h
  | .dict _, .dict _, h => by simp [PyData.eqv] at h
  | .dict _, .none, h => by simp [PyData.eqv] at h
  | .dict _, .bool _, h => by simp [PyData.eqv] at h
  | .dict _, .int _, h => by simp [PyData.eqv] at h
  | .dict _, .str _, h => by simp [PyData.eqv] at h
  | .dict _, .list _, h => by simp [PyData.eqv] at h
  | .dict _, .tuple _, h => by simp [PyData.eqv] at h
theorem eqvAll_depth : ∀ xs ys : List PyData, PyData.eqvAll xs ys = true → PyData.depthAll xs = PyData.depthAll ys
  | [], [], _ => rfl
  | x :: xs, y :: ys, h => by
    have h' : PyData.eqv x y = true ∧ PyData.eqvAll xs ys = true := by simpa only [PyData.eqvAll, Bool.and_eq_true] using h
    simp only [PyData.depthAll]
    rw [eqv_depth x y h'.1, eqvAll_depth xs ys h'.2]
  | [], _ :: _, h => by simp [PyData.eqvAll] at h
  | _ :: _, [], h => by simp [PyData.eqvAll] at h
end
theorem Small.refl {n W : Nat} {d : PyData} (s : Small n W d) : PyData.eqv d d = true := PySem.SeqAt.eqv_refl_plain d (plain_of d s.cl)
/-! data in a heap that grows -/
section
variable {K : PySem.W.Frag} {H H' : Hp}
mutual
theorem Dp.ext (e : Ext H H') : ∀ {v : V} {d : PyData}, Dp K H v d → Dp K H' v d
  | _, _, .non => .non
  | _, _, .bl b => .bl b
  | _, _, .int i => .int i
  | _, _, .str x => .str x
  | _, _, .lst h a => .lst (SqL.ext h e) (DpAll.ext e a)
  | _, _, .tup h a => .tup (SqT.ext h e) (DpAll.ext e a)
theorem DpAll.ext (e : Ext H H') : ∀ {vs : List V} {ds : List PyData}, DpAll K H vs ds → DpAll K H' vs ds
  | _, _, .nil => .nil
  | _, _, .cons h r => .cons (Dp.ext e h) (DpAll.ext e r)
end
theorem DpAll.length : ∀ {vs : List V} {ds : List PyData}, DpAll K H vs ds → vs.length = ds.length
  | _, _, .nil => rfl
  | _, _, .cons _ r => by simp [DpAll.length r]
theorem DpAll.get : ∀ {vs : List V} {ds : List PyData} {i : Nat} {v : V}, DpAll K H vs ds → vs[i]? = some v → ∃ d, ds[i]? = some d ∧ Dp K H v d
  | _, _, _, _, .nil, e => by simp at e
  | _, _, 0, _, .cons h _, e => by simp at e; subst e; exact ⟨_, rfl, h⟩
  | _, _, i + 1, v, .cons _ r, e => by
    obtain ⟨d, h1, h2⟩ := DpAll.get (i := i) (v := v) r (by simpa using e)
    exact ⟨d, by simpa using h1, h2⟩
theorem DpAll.append : ∀ {vs ws : List V} {ds es : List PyData}, DpAll K H vs ds → DpAll K H ws es → DpAll K H (vs ++ ws) (ds ++ es)
  | _, _, _, _, .nil, s => s
  | _, _, _, _, .cons h r, s => .cons h (DpAll.append r s)
theorem DpAll.take (n : Nat) : ∀ {vs : List V} {ds : List PyData}, DpAll K H vs ds → DpAll K H (vs.take n) (ds.take n) := by
  induction n with
  | zero => intro vs ds _; exact .nil
  | succ n ih =>
    intro vs ds h
    cases h with
    | nil => exact .nil
    | cons h r => exact .cons h (ih r)
/-- all but the object at p -/
def hide (p : Addr) (H : Hp) : Hp := fun b => if b = p then none else H b
theorem hide_ext (p : Addr) (H : Hp) : Ext (hide p H) H := fun b o e => by
  unfold hide at e
  split at e
  · cases e
  · exact e
theorem hide_get {p b : Addr} {H : Hp} (n : b ≠ p) : hide p H b = H b := by unfold hide; rw [if_neg n]
theorem hide_of {p b : Addr} {o : HO} {H : Hp} (e : hide p H b = some o) : b ≠ p ∧ H b = some o := by
  unfold hide at e
  split at e
  · cases e
  · exact ⟨by assumption, e⟩
theorem hide_mono {p : Addr} {H H' : Hp} (e : Ext H H') : Ext (hide p H) (hide p H') := fun b o h => by
  obtain ⟨n, q⟩ := hide_of h
  rw [hide_get n]
  exact e b o q
theorem hide_upd {p : Addr} {o : HO} {H : Hp} : hide p (upd H p o) = hide p H := by
  funext b
  unfold hide
  by_cases n : b = p
  · rw [if_pos n, if_pos n]
  · rw [if_neg n, if_neg n, upd_ne n]
theorem hide_new {p q : Addr} {o : HO} {H : Hp} (n : q ≠ p) : hide p (upd H q o) = upd (hide p H) q o := by
  funext b
  unfold hide
  by_cases e : b = q
  · subst e
    rw [if_neg n, upd_same, upd_same]
  · rw [upd_ne e, upd_ne e]
end
end OwnL

/-! ### evaluation up to what is true of the value in any heap that has grown -/
namespace OwnL
open PySem PySem.Spec PyProof.Rows L2 Evl
def EvP (te : TE) (σ : L2.St) (H : Hp) (P : V → Hp → Prop) : Prop := ∀ H1, Ex H H1 → ∀ Q : VK, (∀ v H2, Ex H1 H2 → P v H2 → Q v H2) → te σ H1 Q
/-- several arguments -/
def EvPs (ta : TA) (σ : L2.St) (H : Hp) (P : List V → Hp → Prop) : Prop := ∀ H1, Ex H H1 → ∀ Q : List V → Hp → Prop, (∀ vs H2, Ex H1 H2 → P vs H2 → Q vs H2) → ta σ H1 Q
/-- it stays true where more is there -/
def Up {α : Type} (P : α → Hp → Prop) : Prop := ∀ a H H', Ex H H' → P a H → P a H'
section
variable {X : Cx} {σ : L2.St} {H H' : Hp} {te ta tb : TE} {v x y z : V} {K : PySem.W.Frag} {P P' R : V → Hp → Prop}
theorem EvP.up (e : Ex H H') (h : EvP te σ H P) : EvP te σ H' P := fun H1 a Q q => h H1 (e.trans a) Q q
theorem EvP.imp (h : EvP te σ H P) (k : ∀ v H1, Ex H H1 → P v H1 → P' v H1) : EvP te σ H P' := fun H1 e Q q => h H1 e Q fun v H2 e2 p => q v H2 e2 (k v H2 (e.trans e2) p)
theorem EvP.of (h : Ev te σ H v) : EvP te σ H fun u _ => u = v := fun H1 e Q q => h H1 e Q fun H2 e2 => q v H2 e2 rfl
theorem EvP.is (h : Ev te σ H v) (k : ∀ H1, Ex H H1 → P v H1) : EvP te σ H P := fun H1 e Q q => h H1 e Q fun H2 e2 => q v H2 e2 (k H2 (e.trans e2))
theorem EvP.ev (h : EvP te σ H fun u _ => u = v) : Ev te σ H v := fun H1 e Q q => h H1 e Q fun u H2 e2 p => by subst p; exact q H2 e2
theorem EvP.ofL {xs : List V} (h : EvL te σ H xs) : EvP te σ H fun v H2 => ∃ p, v = .ref p ∧ H p = none ∧ H2 p = some (.lst xs) := fun H1 e Q q => h H1 e _ fun p H2 hp e2 h2 => q (.ref p) H2 e2 ⟨p, rfl, fresh_back e hp, h2⟩
theorem EvP.ofU {xs : List V} (h : EvU te σ H xs) : EvP te σ H fun v H2 => ∃ p, v = .ref p ∧ H p = none ∧ H2 p = some (.tup xs) := fun H1 e Q q => h H1 e _ fun p H2 hp e2 h2 => q (.ref p) H2 e2 ⟨p, rfl, fresh_back e hp, h2⟩
theorem ep_nil : EvPs tNil σ H fun vs _ => vs = [] := fun H1 _ _ q => q [] H1 (Ex.refl H1) rfl
theorem ep_cons {tr : TA} {Ps : List V → Hp → Prop} (hP : Up P) (h : EvP te σ H P) (hr : EvPs tr σ H Ps) : EvPs (tCons te tr) σ H fun vs H2 => ∃ u us, vs = u :: us ∧ P u H2 ∧ Ps us H2 := fun H1 e Q q =>
  h H1 e _ fun u H2 e2 p => hr H2 (e.trans e2) _ fun us H3 e3 ps => q (u :: us) H3 (e2.trans e3) ⟨u, us, rfl, hP u H2 H3 e3 p, ps⟩
theorem EvPs.of {t : TA} {vs : List V} (h : EvA t σ H vs) : EvPs t σ H fun us _ => us = vs := fun H1 e Q q => h H1 e Q fun H2 e2 => q vs H2 e2 rfl
theorem EvPs.imp {t : TA} {Ps Ps' : List V → Hp → Prop} (h : EvPs t σ H Ps) (k : ∀ v H1, Ex H H1 → Ps v H1 → Ps' v H1) : EvPs t σ H Ps' := fun H1 e Q q => h H1 e Q fun v H2 e2 p => q v H2 e2 (k v H2 (e.trans e2) p)
/-- a call of a def, by what it promises from any arguments of a kind -/
theorem ep_call {sp : Sp} {dvs : List V} {E : XK} {t : TA} {Ps : List V → Hp → Prop} (h : EvPs t σ H Ps) (hs : ∀ vs H1, Ex H H1 → Ps vs H1 → ∀ Q : VK, (∀ v H2, Ex H1 H2 → P v H2 → Q v H2) → sp (vs ++ dvs) H1 Q E) : EvP (tCall sp dvs E t) σ H P := fun H1 e Q q =>
  h H1 e _ fun vs H2 e2 p => hs vs H2 (e.trans e2) p Q fun v H3 e3 pv => q v H3 (e2.trans e3) pv
theorem ep_cb {r : List V → Hp → VK → Prop} {t : TA} {Ps : List V → Hp → Prop} (h : EvPs t σ H Ps) (hr : ∀ vs H1, Ex H H1 → Ps vs H1 → ∀ Q : VK, (∀ v H2, Ex H1 H2 → P v H2 → Q v H2) → r vs H1 Q) : EvP (tCB r t) σ H P := fun H1 e Q q =>
  h H1 e _ fun vs H2 e2 p => hr vs H2 (e.trans e2) p Q fun v H3 e3 pv => q v H3 (e2.trans e3) pv
theorem ep_op {r : R2} (hP : Up P) (ha : EvP ta σ H P) (hb : EvP tb σ H P') (hr : ∀ x y H1, Ex H H1 → P x H1 → P' y H1 → ∀ Q : VK, (∀ v H2, Ex H1 H2 → R v H2 → Q v H2) → r x y H1 Q) : EvP (tOp r ta tb) σ H R := fun H1 e Q q =>
  ha H1 e _ fun x H2 e2 p => hb H2 (e.trans e2) _ fun y H3 e3 p' => hr x y H3 ((e.trans e2).trans e3) (hP x H2 H3 e3 p) p' Q fun v H4 e4 r4 => q v H4 ((e2.trans e3).trans e4) r4
theorem ep_tup {t : TA} {Ps : List V → Hp → Prop} (h : EvPs t σ H Ps) (hl : ∀ vs H1, Ps vs H1 → vs.length ≤ 100000) (hu : Up Ps) : EvP (tTup t) σ H fun v H2 => ∃ p vs, v = .ref p ∧ H p = none ∧ H2 p = some (.tup vs) ∧ Ps vs H2 := fun H1 e Q q =>
  h H1 e _ fun vs H2 e2 p => ⟨sz_of (hl vs H2 p), fun a ha => q (.ref a) _ (e2.trans (Ex.new ha)) ⟨a, vs, rfl, fresh_back (e.trans e2) ha, upd_same, hu vs _ _ (Ex.new ha) p⟩⟩
theorem ep_lst {t : TA} {Ps : List V → Hp → Prop} (h : EvPs t σ H Ps) (hl : ∀ vs H1, Ps vs H1 → vs.length ≤ 100000) (hu : Up Ps) : EvP (tLst t) σ H fun v H2 => ∃ p vs, v = .ref p ∧ H p = none ∧ H2 p = some (.lst vs) ∧ Ps vs H2 := fun H1 e Q q =>
  h H1 e _ fun vs H2 e2 p => ⟨sz_of (hl vs H2 p), fun a ha => q (.ref a) _ (e2.trans (Ex.new ha)) ⟨a, vs, rfl, fresh_back (e.trans e2) ha, upd_same, hu vs _ _ (Ex.new ha) p⟩⟩
theorem ep_if {t : TT} {b : Bool} (h : EvT t σ H b) (h1 : b = true → EvP ta σ H P) (h2 : b = false → EvP tb σ H P) : EvP (tIf t ta tb) σ H P := fun H1 e Q q => h H1 e _ fun H2 e2 => by
  cases b with
  | true => exact h1 rfl H2 (e.trans e2) Q fun v H3 e3 p => q v H3 (e2.trans e3) p
  | false => exact h2 rfl H2 (e.trans e2) Q fun v H3 e3 p => q v H3 (e2.trans e3) p
theorem ev_chain {r r' : R2} {tc : TE} {k k' : Bool} (ha : Ev ta σ H x) (hb : Ev tb σ H y) (hr : RV r x y H (.bl k)) (hc : k = true → Ev tc σ H z ∧ RV r' y z H (.bl k')) : Ev (tChain r r' ta tb tc) σ H (.bl (k && k')) := fun H1 e Q q =>
  ha H1 e _ fun H2 e2 => hb H2 (e.trans e2) _ fun H3 e3 => hr H3 ((e.trans e2).trans e3) _ fun H4 e4 => ⟨k, rfl, by
    have e14 := (e2.trans e3).trans e4
    cases k with
    | true =>
      obtain ⟨c1, c2⟩ := hc rfl
      exact c1 H4 (e.trans e14) _ fun H5 e5 => c2 H5 ((e.trans e14).trans e5) Q fun H6 e6 => q H6 ((e14.trans e5).trans e6)
    | false => exact q H4 e14⟩
theorem pi_or {tg l : Expr} {w1 w2 : TI} (h1 : PI X tg l w1) (h2 : PI X tg l w2) : PI X tg l (fun σ H R => w1 σ H R ∨ w2 σ H R) := ⟨fun pins s σ H R I h => h.elim (h1.run pins s σ H R I) (h2.run pins s σ H R I)⟩
theorem sr_ret {D : Ends} (h : EvP te σ H P) (k : ∀ v H1, Ex H H1 → P v H1 → D.rt v H1) : tRet te D σ H := h H (Ex.refl H) _ k
theorem sr_asg {D : Ends} {i : Nat} (h : EvP te σ H P) (k : ∀ v H1, Ex H H1 → P v H1 → D.nx (σ.set i (some v)) H1) : tAsg te (gName i) D σ H := h H (Ex.refl H) _ k
/-! a comprehension without tests: items xs i of an iterable that stays as it is; what is true of the items found is true beside the new list -/
def Lc (H : Hp) (P : Nat → V → Hp → Prop) (D : Addr) (i : Nat) (H' : Hp) : Prop := H D = none ∧ Ex H H' ∧ ∃ acc : List V, H' D = some (.lst acc) ∧ acc.length = i ∧ ∀ (j : Nat) (u : V), acc[j]? = some u → P j u (hide D H')
theorem hide_ex {p : Addr} (e : Ex H H') : Ex (hide p H) (hide p H') := hide_mono e
theorem ep_lc {J : It} {n : Nat} {G : Hp → Prop} {Y : Nat → Hp → V → Hp → Prop} (w : Walk J n G Y) {j : Nat} {vs : List Nat} (xs : Nat → V) (Pi : Nat → V → Hp → Prop) (hG : ∀ H', Ex H H' → G H') (hY : ∀ i H1 x H2, i < n → Ex H H1 → Y i H1 x H2 → H2 = H1 ∧ x = xs i)
    (hn : n ≤ 50000) (hw : ∀ x, wipe ((wipe σ vs).set j (some x)) vs = wipe σ vs) (up : ∀ i, Up (Pi i))
    (he : ∀ i H1 D acc, i < n → Ex H H1 → H D = none → H1 D = some (.lst acc) → EvP te ((wipe σ vs).set j (some (xs i))) H1 (fun u H2 => Pi i u (hide D H2))) (Q : VK) (hQ : ∀ D H2, H D = none → Ex H H2 → (∃ acc : List V, H2 D = some (.lst acc) ∧ acc.length = n ∧ ∀ (j : Nat) (u : V), acc[j]? = some u → Pi j u (hide D H2)) → Q (.ref D) H2) :
    ∀ D, H D = none → ∃ W : Nat → Nat → Hp → Prop, (∃ m, W 0 m (upd H D (.lst []))) ∧ ∀ i m H, W i m H →
      (J.stop i H ∧ Q (.ref D) H) ∨ (J.go i H ∧ ∃ Nx : Hp → Prop, (∀ H', Nx H' → ∃ m', m' < m ∧ W (i + 1) m' H') ∧ ∀ x H', J.yld i H x H' → gName j x (wipe σ vs) H' fun σ2 H2 => wipe σ2 vs = wipe σ vs ∧ tYes σ2 H2 fun b H3 =>
        if b = true then te σ2 H3 fun y H4 => ∃ acc, H4 D = some (.lst acc) ∧ acc.length < sizeLine ∧ Nx (upd H4 D (.lst (acc ++ [y]))) else Nx H3) := fun D hD =>
  lc_it w (Lc H Pi D) ⟨hD, Ex.new hD, [], upd_same, rfl, fun j u h => by simp at h⟩ (fun i H' _ p => hG H' p.2.1) (fun i x H' H2 hi p y => by
    obtain ⟨p1, p2, acc, p3, p4, p5⟩ := p
    obtain ⟨rfl, rfl⟩ := hY i H' x H2 hi p2 y
    refine ⟨hw _, ?_⟩
    show (if true = true then (te ((wipe σ vs).set j (some (xs i))) H2 fun y H4 => ∃ acc, H4 D = some (.lst acc) ∧ acc.length < sizeLine ∧ Lc H Pi D (i + 1) (upd H4 D (.lst (acc ++ [y])))) else Lc H Pi D (i + 1) H2)
    rw [if_pos rfl]
    refine he i H2 D acc hi p2 p1 p3 H2 (Ex.refl H2) _ fun u H4 e4 pu => ⟨acc, e4 D _ p3, sz_lt (by omega), p1, Ex.mut (p2.trans e4) p1, acc ++ [u], upd_same, by simp [p4], fun k z hz => ?_⟩
    rw [hide_upd]
    by_cases hk : k < acc.length
    · rw [List.getElem?_append_left hk] at hz
      exact up k z _ _ (hide_ex e4) (p5 k z hz)
    · have hk2 : k = acc.length := by
        have := (List.getElem?_eq_some_iff.mp hz).1
        simp at this
        omega
      subst hk2
      rw [List.getElem?_append_right (Nat.le_refl _)] at hz
      simp at hz
      subst hz
      rw [p4]
      exact pu) fun H' p => hQ D H' p.1 p.2.1 p.2.2
/-- the same with any target: sg i what the slots are behind it -/
theorem ep_lcg {J : It} {n : Nat} {G : Hp → Prop} {Y : Nat → Hp → V → Hp → Prop} (w : Walk J n G Y) {g : TG} {vs : List Nat} (xs : Nat → V) (sg : Nat → L2.St) (Pi : Nat → V → Hp → Prop) (hG : ∀ H', Ex H H' → G H') (hY : ∀ i H1 x H2, i < n → Ex H H1 → Y i H1 x H2 → H2 = H1 ∧ x = xs i)
    (hn : n ≤ 50000) (hw : ∀ i, i < n → wipe (sg i) vs = wipe σ vs) (hg : ∀ i H1, i < n → Ex H H1 → ∀ Q : L2.St → Hp → Prop, Q (sg i) H1 → g (xs i) (wipe σ vs) H1 Q) (up : ∀ i, Up (Pi i))
    (he : ∀ i H1 D acc, i < n → Ex H H1 → H D = none → H1 D = some (.lst acc) → EvP te (sg i) H1 (fun u H2 => Pi i u (hide D H2))) (Q : VK) (hQ : ∀ D H2, H D = none → Ex H H2 → (∃ acc : List V, H2 D = some (.lst acc) ∧ acc.length = n ∧ ∀ (j : Nat) (u : V), acc[j]? = some u → Pi j u (hide D H2)) → Q (.ref D) H2) :
    ∀ D, H D = none → ∃ W : Nat → Nat → Hp → Prop, (∃ m, W 0 m (upd H D (.lst []))) ∧ ∀ i m H, W i m H →
      (J.stop i H ∧ Q (.ref D) H) ∨ (J.go i H ∧ ∃ Nx : Hp → Prop, (∀ H', Nx H' → ∃ m', m' < m ∧ W (i + 1) m' H') ∧ ∀ x H', J.yld i H x H' → g x (wipe σ vs) H' fun σ2 H2 => wipe σ2 vs = wipe σ vs ∧ tYes σ2 H2 fun b H3 =>
        if b = true then te σ2 H3 fun y H4 => ∃ acc, H4 D = some (.lst acc) ∧ acc.length < sizeLine ∧ Nx (upd H4 D (.lst (acc ++ [y]))) else Nx H3) := fun D hD =>
  lc_it w (Lc H Pi D) ⟨hD, Ex.new hD, [], upd_same, rfl, fun j u h => by simp at h⟩ (fun i H' _ p => hG H' p.2.1) (fun i x H' H2 hi p y => by
    obtain ⟨p1, p2, acc, p3, p4, p5⟩ := p
    obtain ⟨rfl, rfl⟩ := hY i H' x H2 hi p2 y
    refine hg i H2 hi p2 _ ⟨hw i hi, ?_⟩
    show (if true = true then (te (sg i) H2 fun y H4 => ∃ acc, H4 D = some (.lst acc) ∧ acc.length < sizeLine ∧ Lc H Pi D (i + 1) (upd H4 D (.lst (acc ++ [y])))) else Lc H Pi D (i + 1) H2)
    rw [if_pos rfl]
    refine he i H2 D acc hi p2 p1 p3 H2 (Ex.refl H2) _ fun u H4 e4 pu => ⟨acc, e4 D _ p3, sz_lt (by omega), p1, Ex.mut (p2.trans e4) p1, acc ++ [u], upd_same, by simp [p4], fun k z hz => ?_⟩
    rw [hide_upd]
    by_cases hk : k < acc.length
    · rw [List.getElem?_append_left hk] at hz
      exact up k z _ _ (hide_ex e4) (p5 k z hz)
    · have hk2 : k = acc.length := by
        have := (List.getElem?_eq_some_iff.mp hz).1
        simp at this
        omega
      subst hk2
      rw [List.getElem?_append_right (Nat.le_refl _)] at hz
      simp at hz
      subst hz
      rw [p4]
      exact pu) fun H' p => hQ D H' p.1 p.2.1 p.2.2
/-- over a list that stays -/
theorem ep_lcL {a : Addr} {ls : List V} {tl : TE} {g : TG} {vs : List Nat} (hl : Ev tl σ H (.ref a)) (hs : SqL K H a ls) (sg : Nat → L2.St) (Pi : Nat → V → Hp → Prop) (hn : ls.length ≤ 50000) (hw : ∀ i, i < ls.length → wipe (sg i) vs = wipe σ vs)
    (hg : ∀ i H1, i < ls.length → Ex H H1 → ∀ Q : L2.St → Hp → Prop, Q (sg i) H1 → g (ls.getD i .non) (wipe σ vs) H1 Q) (up : ∀ i, Up (Pi i)) (he : ∀ i H1 D acc, i < ls.length → Ex H H1 → H D = none → H1 D = some (.lst acc) → EvP te (sg i) H1 (fun u H2 => Pi i u (hide D H2))) :
    EvP (tLc (iList K tl) g tYes te vs) σ H fun v H2 => ∃ D acc, v = .ref D ∧ H D = none ∧ H2 D = some (.lst acc) ∧ acc.length = ls.length ∧ ∀ (j : Nat) (u : V), acc[j]? = some u → Pi j u (hide D H2) := fun H0 e0 Q q => hl H0 e0 _ fun H1 e1 =>
  ⟨a, rfl, ⟨ls, ex_l (e0.trans e1) hs⟩, ep_lcg (H := H1) (walk_list (K := K) (a := a) (xs := ls)) (fun i => ls.getD i .non) sg Pi (fun H' e => ex_l ((e0.trans e1).trans e) hs) (fun i H2 x H3 hi e y => ⟨y.1, by rw [List.getD_eq_getElem?_getD, y.2]; rfl⟩) hn hw
    (fun i H2 hi e => hg i H2 hi ((e0.trans e1).trans e)) up (fun i H2 D acc hi e hD h2 => he i H2 D acc hi ((e0.trans e1).trans e) (fresh_back (e0.trans e1) hD) h2) Q fun D H2 hD e2 ⟨acc, h1, h2, h3⟩ => q (.ref D) H2 (e1.trans e2) ⟨D, acc, rfl, fresh_back (e0.trans e1) hD, h1, h2, h3⟩⟩
/-- over a list of pairs that stays: [f one other for one, other in l] -/
theorem el_lcPair {a : Addr} {ls : List V} {tl : TE} {i j k : Nat} {vs : List Nat} (f : V → V → V) (one two : Nat → V) (hl : Ev tl σ H (.ref a)) (hs : SqL K H a ls) (hp : ∀ m u, ls[m]? = some u → ∃ t, u = .ref t ∧ SqT K H t [one m, two m]) (hn : ls.length ≤ 50000)
    (hw : ∀ x y, wipe (((wipe σ vs).set i (some x)).set j (some y)) vs = wipe σ vs) (hv : ∀ x y, (((wipe σ vs).set i (some x)).set j (some y))[k]? = some (some (f x y))) :
    EvL (tLc (iList K tl) (gTup K 2 (gCons (gName i) (gCons (gName j) gNil))) tYes (tVar k) vs) σ H ((List.range ls.length).map fun m => f (one m) (two m)) := fun H1 e1 Q q =>
  ep_lcL (H := H1) (K := K) (a := a) (ls := ls) (hl.mono e1) (ex_l e1 hs) (fun m => ((wipe σ vs).set i (some (one m))).set j (some (two m))) (fun m u _ => u = f (one m) (two m)) hn (fun m _ => hw _ _)
    (fun m H2 hm e2 R hR => by
      obtain ⟨u, hu⟩ : ∃ u, ls[m]? = some u := ⟨_, List.getElem?_eq_getElem hm⟩
      obtain ⟨t, ht, hq⟩ := hp m u hu
      rw [List.getD_eq_getElem?_getD, hu]
      exact ⟨t, _, ht, ex_t (e1.trans e2) hq, rfl, _, _, rfl, _, _, rfl, rfl, hR⟩) (fun m u H2 H3 e h => h)
    (fun m H2 D acc _ _ _ _ => EvP.of (ev_var (hv _ _))) H1 (Ex.refl H1) _ fun v H2 e2 ⟨D, acc, hv2, hD, hacc, hlen, hall⟩ => by
      subst hv2
      refine q D H2 hD e2 ?_
      rw [hacc]
      congr 2
      refine List.ext_getElem? fun m => ?_
      by_cases hm : m < acc.length
      · have h1 := List.getElem?_eq_getElem hm
        rw [h1, hall m _ h1, List.getElem?_map, List.getElem?_range (by omega)]
        rfl
      · rw [List.getElem?_eq_none (by omega), List.getElem?_eq_none (by simp; omega)]
/-- over a list that stays, no item passes the tests -/
theorem el_lcNone {a : Addr} {ls : List V} {tl te2 : TE} {g : TG} {t : TT} {vs : List Nat} (hl : Ev tl σ H (.ref a)) (hs : SqL K H a ls) (sg : Nat → L2.St) (hw : ∀ i, i < ls.length → wipe (sg i) vs = wipe σ vs)
    (hg : ∀ i H1, i < ls.length → Ex H H1 → ∀ Q : L2.St → Hp → Prop, Q (sg i) H1 → g (ls.getD i .non) (wipe σ vs) H1 Q) (ht : ∀ i H1, i < ls.length → Ex H H1 → EvT t (sg i) H1 false) : EvL (tLc (iList K tl) g t te2 vs) σ H [] := fun H1 e1 Q q => hl H1 e1 _ fun H2 e2 =>
  ⟨a, rfl, ⟨ls, ex_l (e1.trans e2) hs⟩, fun D hD => lc_it (walk_list (K := K) (a := a) (xs := ls)) (fun _ H' => Ex H2 H' ∧ H' D = some (.lst [])) ⟨Ex.new hD, upd_same⟩ (fun i H' _ p => ex_l ((e1.trans e2).trans p.1) hs) (fun i x H' H3 hi p y => by
    obtain ⟨y1, y2⟩ := y
    subst y1
    have e3 := (e1.trans e2).trans p.1
    have hx : x = ls.getD i .non := by rw [List.getD_eq_getElem?_getD, y2]; rfl
    rw [hx]
    exact hg i H3 hi e3 _ ⟨hw i hi, ht i H3 hi e3 H3 (Ex.refl H3) _ fun H4 e4 => iteF ⟨p.1.trans e4, e4 D _ p.2⟩⟩) fun H' p => q D H' (fresh_back e2 hD) (e2.trans p.1) p.2⟩
def rTupS (K : PySem.W.Frag) : List V → Hp → VK → Prop := fun xs H Q => ∃ p ys, xs = [.ref p] ∧ ((SqL K H p ys ∧ ∀ l, H l = none → Q (.ref l) (upd H l (.tup ys))) ∨ (SqT K H p ys ∧ Q (.ref p) H))
theorem ep_tupOf {R : Addr → List V → Hp → Prop} (h : EvP te σ H fun v H2 => ∃ D acc, v = .ref D ∧ H D = none ∧ H2 D = some (.lst acc) ∧ R D acc H2) (up : ∀ D, Up (R D)) : EvP (tCB (rTupS K) (tCons te tNil)) σ H fun v H2 => ∃ t D acc, v = .ref t ∧ H t = none ∧ H2 t = some (.tup acc) ∧ R D acc H2 := fun H1 e Q q =>
  h H1 e _ fun v H2 e2 ⟨D, acc, hv, hD, h1, h2⟩ => by
    subst hv
    exact ⟨D, acc, rfl, .inl ⟨sq_of h1, fun l hl => q (.ref l) _ (e2.trans (Ex.new hl)) ⟨l, D, acc, rfl, fresh_back (e.trans e2) hl, upd_same, up D acc _ _ (Ex.new hl) h2⟩⟩⟩
theorem pg_tupC {X : Cx} {K : PySem.W.Frag} {es : List Expr} {k : Nat} {t : TGs} {n : Nat} {pos : Pos} (hK : X.K = K) (hc : X.calm = true) (h : PGs X es t)
    (hn : (assignEach es X.env).length = n := by rfl) (hst : (assignEach es X.env).findIdx? (·.1) = none := by rfl) : PG X (.Tuple es k pos) (gTup K n t) := by
  subst hK
  exact pg_tup hc h hn hst
theorem yes_if {A B : Hp → Prop} (h : A H) : tYes σ H fun b H3 => if b = true then A H3 else B H3 := by
  show (if true = true then A H else B H)
  rw [if_pos rfl]
  exact h
theorem eu_tupOf {xs : List V} (h : EvL te σ H xs) : EvU (tCB (rTupS K) (tCons te tNil)) σ H xs := fun H1 e Q q =>
  h H1 e _ fun D H2 _ e2 h2 => ⟨D, xs, rfl, .inl ⟨sq_of h2, fun l hl => q l _ (fresh_back e2 hl) (e2.trans (Ex.new hl)) upd_same⟩⟩
/-! inside a comprehension: the words name K by itself -/
theorem callR_K {X : Cx} {K : PySem.W.Frag} {f : Value} (r : PySem.W.Frag → List V → Hp → VK → Prop) (hK : X.K = K) (h : CallR X f (r X.K)) : CallR X f (r K) := by
  subst hK
  exact h
theorem pe_fldK {X : Cx} {K : PySem.W.Frag} {e : Expr} {f : Str} {ta : TE} {pos : Pos} (hK : X.K = K) (he : PE X e ta) (hb : attributeBase e f X.env (eval e X.env) = eval e X.env) : PE X (.Attribute e f pos) (tFld K ta f) := by
  subst hK
  exact pe_fld he hb
/-- all but some objects -/
def hid (S : List Addr) (H : Hp) : Hp := fun b => if b ∈ S then none else H b
theorem hid_ex {S : List Addr} (e : Ex H H') : Ex (hid S H) (hid S H') := fun b o h => by
  unfold hid at *
  split at h
  · cases h
  · rename_i n
    rw [if_neg n]
    exact e b o h
theorem hid_hide {S : List Addr} {p : Addr} : hid S (hide p H) = hid (p :: S) H := by
  funext b
  unfold hid hide
  by_cases h : b = p
  · subst h
    simp
  · simp [h]
theorem hid_less {S : List Addr} {p : Addr} : Ex (hid (p :: S) H) (hid S H) := fun b o h => by
  unfold hid at *
  split at h
  · cases h
  · rename_i n
    rw [if_neg fun z => n (List.mem_cons_of_mem _ z)]
    exact h
theorem hid_out (S : List Addr) : Ex (hid S H) H := fun b o h => by
  unfold hid at h
  split at h
  · cases h
  · exact h
theorem hid_fresh {S : List Addr} {p : Addr} (hp : H p = none) (e : Ex H H') : Ex (hid S H) (hid (p :: S) H') := fun b o h => by
  unfold hid at *
  split at h
  · cases h
  · rename_i n
    rw [if_neg]
    · exact e b o h
    · intro z
      rcases List.mem_cons.mp z with z | z
      · subst z
        rw [hp] at h
        cases h
      · exact n z
theorem hid_at {S : List Addr} {p : Addr} {o : HO} (n : p ∉ S) (h : H p = some o) : hid S H p = some o := by
  unfold hid
  rw [if_neg n]
  exact h
theorem hid_upd {S : List Addr} {p : Addr} {o : HO} (h : p ∈ S) : hid S (upd H p o) = hid S H := by
  funext b
  unfold hid
  by_cases z : b ∈ S
  · rw [if_pos z, if_pos z]
  · rw [if_neg z, if_neg z, upd_ne (fun e : b = p => z (by rw [e]; exact h))]
/-- all of S are there -/
def Here (S : List Addr) (H : Hp) : Prop := ∀ b ∈ S, H b ≠ none
theorem Here.up {S : List Addr} (h : Here S H) (e : Ex H H') : Here S H' := fun b hb z => by
  cases q : H b with
  | none => exact h b hb q
  | some o =>
    rw [e b o q] at z
    cases z
theorem Here.not {S : List Addr} {p : Addr} (h : Here S H) (hp : H p = none) : p ∉ S := fun z => h p z hp
theorem Here.set {S : List Addr} {p : Addr} {o : HO} (h : Here S H) : Here S (upd H p o) := fun b hb => by
  by_cases z : b = p
  · subst z
    rw [upd_same]
    exact nofun
  · rw [upd_ne z]
    exact h b hb
theorem Here.cons {S : List Addr} {p : Addr} {o : HO} (h : Here S H) (hp : H p = some o) : Here (p :: S) H := fun b hb => by
  rcases List.mem_cons.mp hb with z | z
  · subst z
    rw [hp]
    exact nofun
  · exact h b z
end
end OwnL

/-! ### a method that begins with super().__init__(..) -/
namespace OwnL
open PySem PySem.Spec PyProof.Rows L2
structure SupScope (N P : List Str) (sc : Scope) : Prop where
  kind : sc.kind = .function
  co : sc.isCoroutine = false
  gen : sc.isGenerator = false
  nd : N.Nodup
  pre : N.take P.length = P
  par : ∀ x ∈ P, sc.names.lookup x = some .local
  nocell : ∀ y ∈ sc.names, y.2 ≠ .cell
  free : ∀ y ∈ sc.names, y.2 = .free → y.1 = "__class__"
  sup : sc.names.lookup ("super" : Str) = some .globalImplicit
  cls : sc.names.lookup ("__class__" : Str) = some .free
abbrev supEnv (qual : Str) (scope : Scope) (L f : Addr) (cd : Value) (cc : Addr) : Env := PySem.W.envX qual scope L f cd [("__class__", cc)]
def cxS (CX : CXT) (P : Program) (w : World) (K : PySem.W.Frag) (mg : Str → Option Value) (base : Heap) (N : List Str) (qual : Str) (scope : Scope) (f : Addr) (cd : Value) (cc : Addr) (A : Around) (outer : List Env) (s : Shared) (H : Hp) (E : XK) : Cx where
  prog := P
  w := w
  K := K
  mg := mg
  base := base
  A := A.deeper (supEnv qual scope s.heap.objs.size f cd cc)
  N := N
  s_0 := s
  H_0 := H
  env := supEnv qual scope s.heap.objs.size f cd cc
  outer := outer
  stack := supEnv qual scope s.heap.objs.size f cd cc :: outer
  ex := []
  calm := true
  fn := fun _ => false
  pn := []
  xe := fun e s' => wpAny (model P w) (A.deeper (supEnv qual scope s.heap.objs.size f cd cc)) (leaving (supEnv qual scope s.heap.objs.size f cd cc) e) (fun _ s'' => CX outer H s E e s'') (fun e' s'' => CX outer H s E e' s'') s'
theorem zip_lookup_rev {ps : List Str} {us : List Value} {i : Nat} {x : Str} {v : Value} (nd : ps.Nodup) (h1 : ps[i]? = some x) (h2 : us[i]? = some v) : (ps.zip us).reverse.lookup x = some v := by
  induction ps generalizing us i with
  | nil => simp at h1
  | cons p r ih =>
    cases us with
    | nil => simp at h2
    | cons u us =>
      rw [List.zip_cons_cons, List.reverse_cons, List.lookup_append]
      obtain ⟨n1, n2⟩ := List.nodup_cons.mp nd
      cases i with
      | zero =>
        simp only [List.getElem?_cons_zero, Option.some.injEq] at h1 h2
        subst h1 h2
        have e : (r.zip us).reverse.lookup p = none := by
          rw [List.lookup_eq_none_iff]
          intro q hq
          have := List.of_mem_zip (show (q.1, q.2) ∈ r.zip us from List.mem_reverse.mp hq)
          have ne : p ≠ q.1 := fun z => n1 (z ▸ this.1)
          simpa using ne
        rw [e]
        simp [List.lookup]
      | succ i =>
        rw [ih n2 (by simpa using h1) (by simpa using h2)]
        rfl
theorem inv_startS {CX : CXT} {P : Program} {w : World} {K : PySem.W.Frag} {mg : Str → Option Value} {base : Heap} {N ps : List Str} {qual : Str} {scope : Scope} {f cc D : Addr} {cd : Value} {A : Around} {outer : List Env} {s : Shared} {H : Hp} {E : XK} {us : List Value} {vs : List V} {h' : Heap} {tk : Nat}
    {cl : Value} {cld : Option Addr} {csl : Array (Option Value)}
    (S : SupScope N ps scope) (hd : A.handled = none) (e0 : Env0 P w K mg base A outer s H) (hl : vs.length = ps.length) (r : Vals vs us) (hcell : K.lookup cc = some ⟨cl, cld, .cell (some (.ref D)), csl⟩)
    (hns : h'.Ns s.heap.objs.size (fun x => (ps.zip us).reverse.lookup x)) (hk : ∀ b o, s.heap.get? b = some o → h'.get? b = some o) :
    Inv (cxS CX P w K mg base N qual scope f cd cc A outer s H E) [] (L2.start N vs) H { s with heap := h', toks := tk } := by
  have hpl : ps.length ≤ N.length := by have := congrArg List.length S.pre; rw [List.length_take] at this; omega
  have noA : ∀ b : Addr, b ∉ (cxS CX P w K mg base N qual scope f cd cc A outer s H E).ex := fun b z => absurd (show b ∈ ([] : List Addr) from z) (by simp)
  have KX : K.In base := e0.mod.kin
  have hcb := KX _ _ hcell
  have hone : ∀ {y : Str} {c : Addr}, (cxS CX P w K mg base N qual scope f cd cc A outer s H E).env.cells.lookup y = some c → y = "__class__" ∧ c = cc := fun {y c} h => by
    have h' : List.lookup y [(("__class__" : Str), cc)] = some c := h
    by_cases z : y = "__class__"
    · subst z
      simp [List.lookup] at h'
      exact ⟨rfl, h'.symm⟩
    · have zb : (y == ("__class__" : Str)) = false := beq_eq_false_iff_ne.mpr z
      simp [List.lookup, zb] at h'
  refine ⟨⟨e0.mod, S.kind, rfl, rfl, Nat.le_refl _, fun y z c h1 h2 => ?_, fun y hy => ?_, fun y c h _ => Bool.noConfusion h, fun _ => hd, Around.frames_deeper e0.frames, .inr ⟨rfl, rfl⟩, fun b z => absurd z (noA b), e0.bs, e0.bsz, fun b _ _ => noA b, fun b z => absurd z (noA b), e0.funs, e0.frf⟩,
    rfl, e0.bare, Un.kept hk, ⟨_, hns, fun i y v h1 h2 h3 => ?_⟩, fun y c h => ?_, e0.hok.fresh (Nat.le_refl _), fun y c h => ?_, fun p hp => absurd (show p ∈ ([] : List (Addr × Obj)) from hp) (by simp), e0.hok.kept hk, ?_⟩
  · rw [(hone h1).1, (hone h2).1]
  · have hy : scope.names.lookup y = some .cell ∨ scope.names.lookup y = some .free := hy
    rcases hy with hy | hy
    · exact absurd rfl (S.nocell _ (PySem.mem_of_lookup hy))
    · have e := S.free _ (PySem.mem_of_lookup hy) rfl
      have e' : y = "__class__" := e
      subst e'
      exact ⟨cc, by show List.lookup ("__class__" : Str) [(("__class__" : Str), cc)] = some cc; simp [List.lookup]⟩
  · have hi : i < vs.length := by
      unfold L2.start at h2
      by_cases hi : i < vs.length
      · exact hi
      · rw [List.getElem?_append_right (by simpa using hi)] at h2
        rw [List.getElem?_replicate] at h2
        split at h2 <;> cases h2
    have ha : vs[i]? = some v := by
      unfold L2.start at h2
      rw [List.getElem?_append_left (by simpa using hi), List.getElem?_map] at h2
      cases e : vs[i]? with
      | none => rw [e] at h2; cases h2
      | some a => rw [e] at h2; cases h2; rfl
    obtain ⟨u, hu, rv⟩ := r.get ha
    have hp : ps[i]? = some y := by
      rw [← S.pre, List.getElem?_take_of_lt (by omega)]; exact h1
    have ndP : ps.Nodup := by rw [← S.pre]; exact S.nd.sublist (List.take_sublist _ _)
    exact ⟨u, rv, .inl ⟨S.par y (List.mem_of_getElem? hp), zip_lookup_rev ndP hp hu⟩⟩
  · rw [(hone h).2]
    exact ⟨_, _, hk _ _ (e0.bs _ _ hcb).1, rfl⟩
  · rw [(hone h).2]
    exact (e0.bs _ _ hcb).2
  · unfold L2.start
    show _ = N.length
    rw [List.length_append, List.length_map, List.length_replicate]
    omega

/-- what the written part says of such a method: its code's file, its cell, what super() finds for the class at C -/
structure SupFacts (P : Program) (K : PySem.W.Frag) (mg : Str → Option Value) (C D f2 cda cc : Addr) : Prop where
  code : ∃ (ccl : Value) (cdd : Option Addr) (vs : Array Value) (ccs : Array (Option Value)) (file : Str) (tf : Tok), K.lookup cda = some ⟨ccl, cdd, .fields vs, ccs⟩ ∧ vs[2]? = some (.str file tf) ∧ ((P.main.file : Str) == file) = true
  cell : ∃ (cl : Value) (cld : Option Addr) (csl : Array (Option Value)), K.lookup cc = some ⟨cl, cld, .cell (some (.ref D)), csl⟩
  isD : ∃ cdD, PySem.W.clsIn K D = some cdD
  sub : PySem.W.mroIn K C (.ref D) = some true
  noSup : PySem.W.nsIn K mainGlobals "super" = some none
  top : (P.main.scope.names.lookup ("super" : Str)).isSome = false
  opq : PySem.W.nsIn K cStatics "thirdparty.any" = some none
  find : PySem.W.ks_superIn K C D "__init__" = some (some (.ref f2))
  fn : PySem.W.typeIn K (.ref f2) = some (.type "function")
  fi : PySem.W.fnIn K f2 = true
theorem boot_super : bootBuiltins "super" = some (.type "super") := by first | rfl | decide +kernel | kernel_rfl
section
variable {CX : CXT} {P : Program} {w : World} {K : PySem.W.Frag} {mg : Str → Option Value} {base : Heap} {k j : Nat} {f f2 C D cda cc : Addr} {name qual : Str} {params : Arguments} {scope : Scope} {dV kV doc pm ct oc : Value} {an od : Option Addr}
    {osl : Array (Option Value)} {N ps : List Str} {sp sp2 : Sp} {x0 : Str} {e : Expr} {es : List Expr} {rest : List Stmt} {p0 p1 p2 p3 p4 psup : Pos} {ar : Arg}
/-- the first statement: the super object and its bound method are made, the arguments are reckoned, the other __init__ is called -/
theorem super_call {A : Around} {outer : List Env} {s0 : Shared} {H0 : Hp} {E : XK} {body : List Stmt} {s : Shared} {σ : L2.St} {H : Hp} {ta : TA} {fd : FuncData} {dx : Addr} {fs : List (Str × V)} {x : Addr} {Q : Hp → Prop} {pl : Sem Bool}
    (S : SupScope N ps scope) (T : SupFacts P K mg C D f2 cda cc) (F2 : FnR P w K mg base CX j f2 sp2)
    (lk : K.lookup f = some ⟨oc, od, .func fd, osl⟩) (hp : (fd.params.posonlyargs ++ fd.params.args).head? = some ar) (h0 : N[0]? = some ar.arg) (hin : ar.arg ∈ ps)
    (hr : Room j (A.deeper (supEnv qual scope s0.heap.objs.size f (.ref cda) cc))) (hx : Passes CX (cxS CX P w K mg base N qual scope f (.ref cda) cc A outer s0 H0 E) E)
    (I : Inv (cxS CX P w K mg base N qual scope f (.ref cda) cc A outer s0 H0 E) [] σ H s) (hσ : σ[0]? = some (some (.ref x))) (ho : H x = some (.ins C dx fs))
    (ha : PA (cxS CX P w K mg base N qual scope f (.ref cda) cc A outer s0 H0 E) (e :: es) ta)
    (hq : ∀ q, H q = none → ta σ (upd H q (.met f2 x)) fun us H1 => H1 q = some (.met f2 x) ∧ sp2 (.ref x :: us) H1 (fun _ H2 => Q H2) E)
    (hst : starEach (e :: es) (supEnv qual scope s0.heap.objs.size f (.ref cda) cc) = (false, eval e (supEnv qual scope s0.heap.objs.size f (.ref cda) cc)) :: starEach es (supEnv qual scope s0.heap.objs.size f (.ref cda) cc) := by rfl)
    (hpl : (backTo p3 (starEach (e :: es) (supEnv qual scope s0.heap.objs.size f (.ref cda) cc))).any (·.1) = false := by rfl)
    (he : eval (.Call (.Attribute (.Call (.Name "super" p0) [] [] p1) "__init__" p2) (e :: es) [] p3) (supEnv qual scope s0.heap.objs.size f (.ref cda) cc) = (do
        let ov ← attributeBase (.Call (.Name "super" p0) [] [] p1) "__init__" (supEnv qual scope s0.heap.objs.size f (.ref cda) cc) (eval (.Call (.Name "super" p0) [] [] p1) (supEnv qual scope s0.heap.objs.size f (.ref cda) cc))
        standAt p2.atName
        let (g, first) ← holding [ov] (getMethod ov "__init__" pl)
        callWith p3 g first (backTo p3 (starEach (e :: es) (supEnv qual scope s0.heap.objs.size f (.ref cda) cc))) []) := by rfl) :
    _root_.PySem.wpAt (model P w) (A.deeper (supEnv qual scope s0.heap.objs.size f (.ref cda) cc)) (.func body (supEnv qual scope s0.heap.objs.size f (.ref cda) cc))
      (eval (.Call (.Attribute (.Call (.Name "super" p0) [] [] p1) "__init__" p2) (e :: es) [] p3) (supEnv qual scope s0.heap.objs.size f (.ref cda) cc))
      (fun _ s' => ∃ H', Inv (cxS CX P w K mg base N qual scope f (.ref cda) cc A outer s0 H0 E) [] σ H' s' ∧ Q H') (cxS CX P w K mg base N qual scope f (.ref cda) cc A outer s0 H0 E).xe s := by
  have KX : K.In s.heap := I.kIn
  obtain ⟨ccl, cdd, vs, ccs, file, tf, hcode, hvs, hfile⟩ := T.code
  obtain ⟨cl, cld, csl, hcell⟩ := T.cell
  obtain ⟨cdD, hD⟩ := T.isD
  obtain ⟨mA, O, _, _, _, _⟩ := ins_get I.hok ho
  have hka : scope.names.lookup ar.arg = some .local := S.par _ hin
  have hxo := O.obj
  obtain ⟨m, hns, hl⟩ := id I.loc
  obtain ⟨u, ru, hlook⟩ := hl 0 ar.arg (.ref x) h0 hσ (.inl hka)
  obtain rfl : u = Value.ref x := ru
  have hm : m ar.arg = some (.ref x) := by
    rcases hlook with ⟨_, e⟩ | ⟨hk, _⟩
    · exact e
    · rcases hk with hk | hk
      · have hk' : scope.names.lookup ar.arg = some .cell := hk
        rw [hka] at hk'; cases hk'
      · have hk' : scope.names.lookup ar.arg = some .free := hk
        rw [hka] at hk'; cases hk'
  obtain ⟨oD, hD1, hD2⟩ : ∃ oD, s.heap.get? D = some oD ∧ oD.data = .cls cdD := by
    unfold PySem.W.clsIn at hD
    split at hD
    · rename_i c d cd' sl hoD
      cases hD
      exact ⟨_, KX _ _ hoD, rfl⟩
    · cases hD
  refine PySem.ks_wpAt_MethodCall (pl := pl) ?_ he
  refine PySem.ks_wpAt_super_base (f := f) (cc := cda) (env := supEnv qual scope s0.heap.objs.size f (.ref cda) cc) S.sup S.cls (by decide) rfl (KX _ _ lk) rfl hp rfl (KX _ _ hcode) rfl hvs hfile T.top ?_
  obtain ⟨mb, hb1, hb2⟩ := I.mod.blt
  refine PySem.W.ks_loadName_global S.kind S.sup (Calls.loadGlobal_builtin (env := supEnv qual scope s0.heap.objs.size f (.ref cda) cc) (I.mod.glob.keeps I.bk) (PySem.W.mg_none_of I.ok.mod.kin I.mod.glob T.noSup) (hb1.keeps I.bk) ((hb2 _ (by decide)).trans boot_super) ⟨rfl, ?_⟩)
  refine wpAny_loadName_free S.kind S.cls rfl ⟨_, KX _ _ hcell, rfl⟩ ?_
  refine wpAny_loadName_local S.kind hka hns hm ?_
  obtain ⟨hh, g, d, t, os⟩ := s
  refine PySem.ks_wpAny_isType_cls hD1 hD2 ⟨rfl, ?_⟩
  refine PySem.ks_wpAny_call_super hD1 hD2 hxo rfl (fun c e => nomatch e) (PySem.W.looks_mroIn KX T.sub) (fun h' eso k => ?_)
  have K1 : K.In h' := KX.keeps k
  have hm2 := T.find
  unfold PySem.W.ks_superIn at hm2
  cases hc : PySem.W.clsIn K C with
  | none => rw [hc] at hm2; cases hm2
  | some cd =>
    rw [hc] at hm2
    obtain ⟨of, hof, hofc⟩ : ∃ of, h'.get? f2 = some of ∧ of.cls = .type "function" := by
      have ht' : (K.lookup f2).map (·.cls) = some (.type "function") := T.fn
      cases z : K.lookup f2 with
      | none => rw [z] at ht'; cases ht'
      | some of => rw [z] at ht'; exact ⟨of, K1 _ _ z, Option.some.inj ht'⟩
    have hxC : x ≠ C := by
      rintro rfl
      unfold PySem.W.clsIn at hc
      split at hc
      · rename_i c d cd' sl ho'
        have e := KX _ _ ho'
        have e2 : some (PySem.W.instObj x dx) = _ := hxo.symm.trans e
        cases e2
      · cases hc
    refine PySem.ks_wpAny_getMethod_super eso (PySem.W.looks_opaque K1 T.opq) (l₀ := cd.mro) ?_ rfl K1 hm2 hof hofc hxC (by decide) ?_
    · exact fun A Q E s k q => wpAny_bind ((PySem.W.looks_clsIn K1 hc) A _ E s k (wpAny_pure q))
    · have I1 : Inv (cxS CX P w K mg base N qual scope f (.ref cda) cc A outer s0 H0 E) [] σ H ⟨h', g, d, t, os⟩ := I.kept k
      have hfr : H h'.objs.size = none := I1.hok.fresh (Nat.le_refl _)
      have I2 : Inv (cxS CX P w K mg base N qual scope f (.ref cda) cc A outer s0 H0 E) [] σ (upd H h'.objs.size (.met f2 x)) ⟨h'.push { cls := .type "method", data := .fields #[.ref f2, .ref x] }, g, d, t + 1, os⟩ :=
        I1.laid (t' := t + 1) (a := h'.objs.size) (o := .met f2 x) (fun b u z => Heap.get?_push_of_some _ z) (Nat.le_refl _)
          (show (h'.push (PySem.W.methodObj (.ref f2) (.ref x))).get? h'.objs.size = some (PySem.W.methodObj (.ref f2) (.ref x)) from Heap.get?_push_size h' rfl)
      rw [hst] at hpl ⊢
      refine callwith_met (X := cxS CX P w K mg base N qual scope f (.ref cda) cc A outer s0 H0 E) (g := f2) (a := x) (keywords := []) (by rw [hpl] <;> rfl) T.fi ?_
      refine PySem.Calls.evalArgs_plain ?_
      have hrun := ha.run p3 [] _ σ _ _ I2 (hq _ hfr)
      have hst' : starEach (e :: es) (cxS CX P w K mg base N qual scope f (.ref cda) cc A outer s0 H0 E).env = _ := hst
      rw [hst'] at hrun
      refine thn hrun fun us s2 ⟨vs2, H2, I3, r, hmet, hsp⟩ => ⟨met_P I3 hmet, ?_⟩
      refine wpAny_call (call_met I3 hmet ?_)
      refine codeAny_mono (run_fnR (us := Value.ref x :: us) (vs := V.ref x :: vs2) F2 hr hx I3 (.cons rfl r) hsp) fun r s' hq' => ?_
      cases r with
      | error e => exact hq'
      | ok fl =>
        cases fl with
        | ret v =>
          obtain ⟨_, H', I4, _, q⟩ := hq'
          exact ⟨H', I4, q⟩
        | next => exact False.elim hq'
        | brk => exact False.elim hq'
        | cont => exact False.elim hq'

theorem fn_super {body : List Stmt} (hbd : body = .Expr (.Call (.Attribute (.Call (.Name "super" p0) [] [] p1) "__init__" p2) (e :: es) [] p3) p4 :: rest)
    (lk : K.lookup f = some ⟨oc, od, .func (PySem.W.fnX name qual params body scope [("__class__", cc)] dV kV doc pm an (.ref cda) ct), osl⟩) (hcd : PySem.W.codeIn K (.ref cda) qual = true) (S : SupScope N ps scope)
    (hcell : ∃ (cl : Value) (cld : Option Addr) (csl : Array (Option Value)), K.lookup cc = some ⟨cl, cld, .cell (some (.ref D)), csl⟩)
    (hp : (params.posonlyargs ++ params.args).head? = some ar) (h0 : N[0]? = some ar.arg) (hin : ar.arg ∈ ps)
    (len : ∀ vs H Q E, sp vs H Q E → vs.length = ps.length) (F2 : FnR P w K mg base CX j f2 sp2)
    (hst : ∀ env : Env, starEach (e :: es) env = (false, eval e env) :: starEach es env) (hpl : ∀ env : Env, (backTo p3 (starEach (e :: es) env)).any (·.1) = false)
    {pl : Env → Sem Bool}
    (he : ∀ env : Env, eval (.Call (.Attribute (.Call (.Name "super" p0) [] [] p1) "__init__" p2) (e :: es) [] p3) env = (do
        let ov ← attributeBase (.Call (.Name "super" p0) [] [] p1) "__init__" env (eval (.Call (.Name "super" p0) [] [] p1) env)
        standAt p2.atName
        let (g, first) ← holding [ov] (getMethod ov "__init__" (pl env))
        callWith p3 g first (backTo p3 (starEach (e :: es) env)) []))
    (hsw : ∀ env : Env, swapsWith (.Call (.Attribute (.Call (.Name "super" p0) [] [] p1) "__init__" p2) (e :: es) [] p3) none p4.line env = pure false)
    (hbody : ∀ (A : Around) (outer : List Env) (s : Shared) (H : Hp) (vs : List V) (Q : VK) (E : XK), Room k (A.deeper (supEnv qual scope s.heap.objs.size f (.ref cda) cc)) → sp vs H Q E →
      ∃ (C dx : Addr) (fs : List (Str × V)) (x : Addr) (ta : TA) (t : TS), (L2.start N vs)[0]? = some (some (.ref x)) ∧ H x = some (.ins C dx fs) ∧ SupFacts P K mg C D f2 cda cc ∧ Room j (A.deeper (supEnv qual scope s.heap.objs.size f (.ref cda) cc)) ∧
        Passes CX (cxS CX P w K mg base N qual scope f (.ref cda) cc A outer s H E) E ∧ PA (cxS CX P w K mg base N qual scope f (.ref cda) cc A outer s H E) (e :: es) ta ∧ PSs (cxS CX P w K mg base N qual scope f (.ref cda) cc A outer s H E) rest t ∧
        ∀ q, H q = none → ta (L2.start N vs) (upd H q (.met f2 x)) fun us H1 => H1 q = some (.met f2 x) ∧ sp2 (.ref x :: us) H1 (fun _ H2 => t { nx := fun _ H' => Q .non H', rt := Q } (L2.start N vs) H2) E) :
    FnOk P w K mg base CX (k + 1) f (PySem.W.fnX name qual params body scope [("__class__", cc)] dV kV doc pm an (.ref cda) ct) ps sp := by
  subst hbd
  refine ⟨len, fun A outer s H args us vs Q E hr e0 hb r hsp => ?_⟩
  have hl := len _ _ _ _ hsp
  have KX : K.In s.heap := e0.mod.kin.keeps fun b o e => (e0.bs b o e).1
  have lim : s.heap.NoLimit := e0.mod.nolimit.keeps fun b o e => (e0.bs b o e).1
  obtain ⟨cl, cld, csl, hcell⟩ := hcell
  refine PySem.ks_codeAny_call_defAt (binds := ps.zip us) hr.depth (KX _ _ lk) rfl lim (PySem.W.codeRec_of KX hcd) rfl hb S.nocell (fun y hy => S.par _ (List.of_mem_zip (show (y.1, y.2) ∈ ps.zip us from hy)).1) (fun h₁ hns hk₁ => ?_) S.co S.gen S.kind
  obtain ⟨C, dx, fs, x, ta, t, hσ, ho, T, hrj, hx, ha, hs, hq⟩ := hbody A outer s H vs Q E (hr.deeper _) hsp
  have I : Inv (cxS CX P w K mg base N qual scope f (.ref cda) cc A outer s H E) [] (L2.start N vs) H { s with heap := h₁, toks := s.toks + (ps.zip us).length } := inv_startS S hr.hd e0 hl r hcell hns hk₁
  have fin : ∀ {σ' : L2.St} {H' : Hp} {v : V} {u : Value} {s' : Shared}, Inv (cxS CX P w K mg base N qual scope f (.ref cda) cc A outer s H E) [] σ' H' s' → RelV v u → Q v H' → CE outer P w H s Q u s' :=
    fun {σ' H' v u s'} J rv q => ⟨v, H', J.os, J.bare, J.base, J.hok, rv, q⟩
  refine PySem.ks_wpAt_execs_cons (PySem.ks_wpAt_Expr_any (PySem.ks_wpAt_mono (super_call (pl := pl _) S T F2 lk hp h0 hin hrj hx I hσ ho ha hq (hst _) (hpl _) (he _)) (fun v s' hv => ?_) fun e s' hs => hs) ?_ (hsw _))
  · obtain ⟨H', J, q⟩ := hv
    show _root_.PySem.wpAt _ _ _ (execs rest _) _ _ s'
    refine wpAt_of_wpAny (wpAny_mono (hs.run [] s' (L2.start N vs) H' _ J q) (fun fl s'' hs' => ?_) fun e s'' hs' => hs')
    cases fl with
    | ret u =>
      obtain ⟨v, σ', H', J, rv, q⟩ := hs'
      exact fin J rv q
    | next =>
      obtain ⟨σ', H', J, q⟩ := hs'
      exact fin (v := V.non) (u := Value.none) J rfl q
    | brk =>
      obtain ⟨_, _, _, q⟩ := hs'
      exact False.elim q
    | cont =>
      obtain ⟨_, _, _, q⟩ := hs'
      exact False.elim q
  · show interactive (supEnv qual scope s.heap.objs.size f (.ref cda) cc) = false
    simp [interactive, S.kind]
end
end OwnL

/-! ### len(set(xs)), xs a list or a tuple of any texts -/
namespace OwnL
open PySem PySem.Spec PyProof.Rows L2 SS
/-- how many different ones -/
def many : List Str → Nat
  | [] => 0
  | x :: r => if r.any (· == x) then many r else many r + 1
theorem many_le : ∀ l : List Str, many l ≤ l.length
  | [] => Nat.le_refl _
  | x :: r => by
    have := many_le r
    unfold many
    rw [List.length_cons]
    split <;> omega
section
variable {prog : Program} {w : World} {A : Around} {E : Value → Shared → Prop} {s : Shared}
theorem set_up {I S : Addr} {fp wr : List Addr} {G : Array GenState → Array GenState → Prop} {n : Nat} {Pv : Nat → Value → Prop} {St : Nat → Shared → Prop} {R : Result → Shared → Prop} (W : WalksS prog w A.in1 I fp wr G n Pv St) (apart : S ∉ fp) (xs : List Str) (size : xs.length = n) (room : n + 1 < scanBound)
    (val : ∀ i v, Pv i v → ∃ t, v = .str (xs.getD i Str.empty) t) (left : Nat) : ∀ (i : Nat) (s : Shared), n - i = left → i ≤ n → St i s → s.heap.SetOf (PySem.strKind prog w) S (fun y => (xs.take i).any (· == y)) (many (xs.take i).reverse) →
      (∀ s', Moved (S :: wr) G s s' → s'.heap.SetOf (PySem.strKind prog w) S (fun y => xs.any (· == y)) (many xs.reverse) → R (.ok (.ret .none)) s') → codeAny (model prog w) A (.builtin "set.update.loop" ⟨[.ref S, .ref I], []⟩) R s := by
  have out : S ∉ wr := fun h => apart (W.sub _ h)
  have more : ∀ b ∈ wr, b ∈ S :: wr := fun b hb => List.mem_cons_of_mem _ hb
  have keep : ∀ {p : Str → Bool} {c : Nat} {s1 s2 : Shared}, Moved wr G s1 s2 → s1.heap.SetOf (PySem.strKind prog w) S p c → s2.heap.SetOf (PySem.strKind prog w) S p c := fun m ⟨o, es, ep, tb, ho, rest⟩ => ⟨o, es, ep, tb, m.heap S _ out ho, rest⟩
  have enter : ∀ {s1 : Shared} {R' : Result → Shared → Prop}, wpAny (model prog w) A.in1 (Builtin.«set.update.loop» ⟨[.ref S, .ref I], []⟩) (fun fin s' => match fin with | .done f => R' (.ok f) s' | .again c' => c'.quiet = true ∧ codeAny (model prog w) A c' R' s') (fun e s' => R' (.error e) s') s1 → codeAny (model prog w) A (.builtin "set.update.loop" ⟨[.ref S, .ref I], []⟩) R' s1 := fun h =>
    codeAny_builtin F.entry_set_update_loop (by rw [Around.under_plainId F.plain_set_update_loop _]; exact h)
  induction left with
  | zero =>
    intro i s e0 le st hS fin
    obtain rfl : i = n := by omega
    have whole : xs.take xs.length = xs := List.take_length
    rw [← size, whole] at hS
    refine enter ?_
    show wpAny _ A.in1 (pyNext (.ref I) >>= _) _ _ s
    exact wpAny_bind (W.done s _ _ st fun s' m => wpAny_pure (fin s' (m.mono more) (keep m hS)))
  | succ left ih =>
    intro i s e0 le st hS fin
    have lt : i < n := by omega
    have hx : xs[i]? = some (xs.getD i Str.empty) := by simp [List.getD, List.getElem?_eq_getElem (show i < xs.length by omega)]
    refine enter ?_
    show wpAny _ A.in1 (pyNext (.ref I) >>= _) _ _ s
    refine wpAny_bind (W.item i s _ _ lt st fun v s' hv st' m => ?_)
    obtain ⟨t, rfl⟩ := val i v hv
    show wpAny _ A.in1 (holding [Value.str (xs.getD i Str.empty) t] (setAdd S (.str (xs.getD i Str.empty) t)) >>= _) _ _ s'
    refine wpAny_bind (wpAny_holding ?_)
    unfold setAdd
    refine wpAny_holding (wpAny_bind ((PySem.strKind prog w).pyHash (k := xs.getD i Str.empty) (strKind_is _ _ _ _) ?_))
    have few := many_le (xs.take i).reverse
    rw [List.length_reverse, List.length_take] at few
    have hS1 := keep m hS
    refine wpAny_setAddHashed_of (knd := PySem.strKind prog w) (s := { s' with toks := s'.toks + 1 }) (strKind_is _ _ _ _) rfl hS1 (by omega) fun h' same hS2 => ?_
    have next : h'.SetOf (PySem.strKind prog w) S (fun y => (xs.take (i + 1)).any (· == y)) (many (xs.take (i + 1)).reverse) := by
      refine SetOf_congr hS2 (fun y => ?_) ?_
      · rw [List.take_add_one, hx]
        simp only [Option.toList, List.any_append, List.any_cons, List.any_nil, Bool.or_false]
        congr 1
        by_cases q : y = xs.getD i Str.empty
        · subst q; simp
        · rw [decide_eq_false q]
          exact (beq_eq_false_iff_ne.mpr fun z => q z.symm).symm
      · rw [List.take_add_one, hx]
        simp only [Option.toList, List.reverse_append, List.reverse_cons, List.reverse_nil, List.nil_append, List.cons_append]
        show _ = (if ((xs.take i).reverse.any (· == xs.getD i Str.empty)) = true then many (xs.take i).reverse else many (xs.take i).reverse + 1)
        rw [List.any_reverse]
    refine wpAny_pure ⟨plainId_quiet F.plain_set_update_loop _, ih (i + 1) _ (by omega) lt (W.frame _ s' _ _ st' (Nat.le_succ _) fun b hb o e => ?_) next fun s'' m2 hS3 => ?_⟩
    · rw [same.2 b (fun h : b = S => apart (by rw [← h]; exact hb))]; exact e
    · refine fin s'' (Moved.trans W.gtrans ((m.mono more).then_heap (Nat.le_succ _) fun b o hb e => ?_) m2) hS3
      rw [same.2 b (fun h : b = S => hb (by rw [h]; exact List.mem_cons_self))]; exact e

theorem set_of_list {l : Addr} {items : Array Value} {xs : List Str} {Q : Value → Shared → Prop} (calm : A.handled = none) (hl : s.heap.IsList l items) (its : StrsAre items.toList xs) (room : xs.length + 1 < scanBound)
    (fin : ∀ (h' : Heap) (tk : Nat), h'.SetOf (PySem.strKind prog w) s.heap.objs.size (fun y => xs.any (· == y)) (many xs.reverse) → (∀ b o, b < s.heap.objs.size → s.heap.get? b = some o → h'.get? b = some o) → Q (.ref s.heap.objs.size) { s with heap := h', toks := tk }) :
    wpAny (model prog w) A (call (.type "set") [.ref l]) Q E s := by
  have C := PySem.F.called_set
  obtain ⟨c, tl, hmro⟩ := C.mro
  have hmade := C.made
  have hsub := C.sub
  refine wpAny_call (codeAny_of_tree ?_)
  show wpAny _ _ (callAny (.type "set") _) _ _ _
  refine wpAny_pure ⟨Code.quiet_builtin _ (by decide +kernel), codeAny_builtin PySem.F.entry_type_call ?_⟩
  rw [Around.under_plain (weight_type_call_type "set" [.ref l] []) rfl]
  have h1 := C.notType
  have h2 := C.canCreate
  have hct := PySem.F.typeCall_set_1 (.ref l)
  repeat (any_goals (first | assumption | wp_step))
  let fresh : Bool → Heap := fun led => s.heap.push { cls := .type "set", dict := none, data := .set #[] 0 (.fresh 0 0 led) }
  refine codeAny_mono (code_set_new_1 (.ref l) (E := E) (Q₁ := fun v s₁ => ∃ led : Bool, v = .ref s.heap.objs.size ∧ s₁ = { s with heap := s.heap.push { cls := .type "set", dict := none, data := .set #[] 0 (.fresh 0 0 led) } }) fun led => ⟨led, rfl, rfl⟩) fun r s₁ made => ?_
  match r, made with
  | .error e, made => exact made
  | .ok (.ret obj), ⟨led, e1, e2⟩ =>
    subst e1 e2
    have hS : (s.heap.push { cls := .type "set", dict := none, data := .set #[] 0 (.fresh 0 0 led) }).get? s.heap.objs.size = some { cls := .type "set", dict := none, data := .set #[] 0 (.fresh 0 0 led) } := Heap.get?_push_size _ rfl
    have hT : Shared.TypeIs { s with heap := s.heap.push { cls := .type "set", dict := none, data := .set #[] 0 (.fresh 0 0 led) } } (.ref s.heap.objs.size) "set" := ⟨_, hS, rfl⟩
    have hli := C.init.lookup
    have hbi := C.init.bind (.ref s.heap.objs.size)
    repeat (any_goals (first | assumption | wp_step))
    refine codeAny_mono (codeAny_call_builtin (R := wants (fun r s₂ => r = .none ∧ ∃ h' tk, s₂ = { s with heap := h', toks := tk } ∧ h'.SetOf (PySem.strKind prog w) s.heap.objs.size (fun y => xs.any (· == y)) (many xs.reverse) ∧ (∀ b o, b < s.heap.objs.size → s.heap.get? b = some o → h'.get? b = some o)) E)
      C.init.plain PySem.F.entry_set_init (check_set_init_1 hT ?_)) fun r₂ s₂ got => ?_
    · obtain ⟨ol, hol, hcl, nl, hdl⟩ := hl
      obtain ⟨ocls, odict, odata, oslots⟩ := ol
      simp only at hcl hdl
      subst hcl; subst hdl
      have there : (s.heap.push { cls := .type "set", dict := none, data := .set #[] 0 (.fresh 0 0 led) }).get? l = some { cls := .type "list", dict := odict, data := .seq items nl, slots := oslots } := Heap.get?_push_of_some _ hol
      have hsls := PySem.F.sub_list_set
      have hslf := PySem.F.sub_list_frozenset
      have hne : (Value.type "list" == Value.type "dict") = false := by decide
      have hl1 : (s.heap.push { cls := .type "set", dict := none, data := .set #[] 0 (.fresh 0 0 led) }).IsList l items := ⟨_, there, rfl, nl, rfl⟩
      unfold Builtin.«set.__init__» noKeywords Builtin.Frozenset.updateFrom
      generalize hPI : pyIter = PI
      wp_walk
      subst hPI
      refine wpAny_pyIter_list hl1 ?_
      refine wpAny_bind (wpAny_runValue ?_)
      have low : l < s.heap.objs.size := Heap.lt_size hol
      have calm3 : A.in1.in1.in1.handled = none := by simp [calm]
      have neI : l ≠ (s.heap.push { cls := .type "set", dict := none, data := .set #[] 0 (.fresh 0 0 led) }).objs.size := by
        rw [Heap.size_push]; exact Nat.ne_of_lt (Nat.lt_succ_of_lt low)
      have apart : s.heap.objs.size ∉ [(s.heap.push { cls := .type "set", dict := none, data := .set #[] 0 (.fresh 0 0 led) }).objs.size, l] := by
        rw [Heap.size_push]; simp only [List.mem_cons, List.not_mem_nil, or_false, not_or]
        exact ⟨Nat.ne_of_lt (Nat.lt_succ_self _), Nat.ne_of_gt low⟩
      have size : xs.length = items.size := by rw [← StrsAre.len_eq its, Array.length_toList]
      refine set_up ((Walks.list calm3 _ l neI items).toS) apart xs size (by rw [← size]; exact room) (fun i v hv => strs_at its i v (by rw [Array.getElem?_toList]; exact hv)) (items.size - 0) 0 _ (by omega) (Nat.zero_le _) ⟨⟨_, Heap.get?_push_size _ rfl, rfl, rfl⟩, (hl1.push _)⟩ ?_ ?_
      · have got : ((s.heap.push { cls := .type "set", dict := none, data := .set #[] 0 (.fresh 0 0 led) }).push { cls := .type "list_iterator", data := .fields #[.ref l, .int 0 0] }).get? s.heap.objs.size = some { cls := .type "set", dict := none, data := .set #[] 0 (.fresh 0 0 led) } := Heap.get?_push_of_some _ hS
        exact SetOf_congr ((setObjOf_fresh (knd := PySem.strKind prog w) led).setOf got (by unfold scanBound; omega)) (fun _ => rfl) rfl
      · rintro ⟨h', g', d', tk', os'⟩ m hS'
        obtain rfl : g' = s.gens := m.gens
        obtain rfl : d' = s.drawn := m.drawn
        obtain rfl : os' = s.os := m.os
        show wpAny _ _ _ _ _ _
        refine wpAny_pure ?_
        show wpAny _ _ (ret Value.none) _ _ _
        refine wpAny_pure ⟨rfl, h', tk', rfl, hS', fun b o hb e => ?_⟩
        have far : b ∉ [s.heap.objs.size, (s.heap.push { cls := .type "set", dict := none, data := .set #[] 0 (.fresh 0 0 led) }).objs.size] := by
          rw [Heap.size_push]; simp only [List.mem_cons, List.not_mem_nil, or_false, not_or]
          omega
        exact m.heap b o far (Heap.get?_push_of_some _ (Heap.get?_push_of_some _ e))
    · match r₂, got with
      | .error e, got => exact got
      | .ok (.ret r), ⟨e3, h', tk, e4, hS', kept⟩ =>
        subst e3 e4
        repeat (any_goals (first | assumption | wp_step))
        exact fin _ _ hS' kept

theorem set_of_tuple {l : Addr} {items : Array Value} {xs : List Str} {Q : Value → Shared → Prop} (calm : A.handled = none) (hl : s.heap.IsTuple l items) (its : StrsAre items.toList xs) (room : xs.length + 1 < scanBound)
    (fin : ∀ (h' : Heap) (tk : Nat), h'.SetOf (PySem.strKind prog w) s.heap.objs.size (fun y => xs.any (· == y)) (many xs.reverse) → (∀ b o, b < s.heap.objs.size → s.heap.get? b = some o → h'.get? b = some o) → Q (.ref s.heap.objs.size) { s with heap := h', toks := tk }) :
    wpAny (model prog w) A (call (.type "set") [.ref l]) Q E s := by
  have C := PySem.F.called_set
  obtain ⟨c, tl, hmro⟩ := C.mro
  have hmade := C.made
  have hsub := C.sub
  refine wpAny_call (codeAny_of_tree ?_)
  show wpAny _ _ (callAny (.type "set") _) _ _ _
  refine wpAny_pure ⟨Code.quiet_builtin _ (by decide +kernel), codeAny_builtin PySem.F.entry_type_call ?_⟩
  rw [Around.under_plain (weight_type_call_type "set" [.ref l] []) rfl]
  have h1 := C.notType
  have h2 := C.canCreate
  have hct := PySem.F.typeCall_set_1 (.ref l)
  repeat (any_goals (first | assumption | wp_step))
  let fresh : Bool → Heap := fun led => s.heap.push { cls := .type "set", dict := none, data := .set #[] 0 (.fresh 0 0 led) }
  refine codeAny_mono (code_set_new_1 (.ref l) (E := E) (Q₁ := fun v s₁ => ∃ led : Bool, v = .ref s.heap.objs.size ∧ s₁ = { s with heap := s.heap.push { cls := .type "set", dict := none, data := .set #[] 0 (.fresh 0 0 led) } }) fun led => ⟨led, rfl, rfl⟩) fun r s₁ made => ?_
  match r, made with
  | .error e, made => exact made
  | .ok (.ret obj), ⟨led, e1, e2⟩ =>
    subst e1 e2
    have hS : (s.heap.push { cls := .type "set", dict := none, data := .set #[] 0 (.fresh 0 0 led) }).get? s.heap.objs.size = some { cls := .type "set", dict := none, data := .set #[] 0 (.fresh 0 0 led) } := Heap.get?_push_size _ rfl
    have hT : Shared.TypeIs { s with heap := s.heap.push { cls := .type "set", dict := none, data := .set #[] 0 (.fresh 0 0 led) } } (.ref s.heap.objs.size) "set" := ⟨_, hS, rfl⟩
    have hli := C.init.lookup
    have hbi := C.init.bind (.ref s.heap.objs.size)
    repeat (any_goals (first | assumption | wp_step))
    refine codeAny_mono (codeAny_call_builtin (R := wants (fun r s₂ => r = .none ∧ ∃ h' tk, s₂ = { s with heap := h', toks := tk } ∧ h'.SetOf (PySem.strKind prog w) s.heap.objs.size (fun y => xs.any (· == y)) (many xs.reverse) ∧ (∀ b o, b < s.heap.objs.size → s.heap.get? b = some o → h'.get? b = some o)) E)
      C.init.plain PySem.F.entry_set_init (check_set_init_1 hT ?_)) fun r₂ s₂ got => ?_
    · obtain ⟨ol, hol, hcl, nl, hdl⟩ := hl
      obtain ⟨ocls, odict, odata, oslots⟩ := ol
      simp only at hcl hdl
      subst hcl; subst hdl
      have there : (s.heap.push { cls := .type "set", dict := none, data := .set #[] 0 (.fresh 0 0 led) }).get? l = some { cls := .type "tuple", dict := odict, data := .seq items nl, slots := oslots } := Heap.get?_push_of_some _ hol
      have hsls := PySem.F.sub_tuple_set
      have hslf := PySem.F.sub_tuple_frozenset
      have hne : (Value.type "tuple" == Value.type "dict") = false := by decide
      have hl1 : (s.heap.push { cls := .type "set", dict := none, data := .set #[] 0 (.fresh 0 0 led) }).IsTuple l items := ⟨_, there, rfl, nl, rfl⟩
      unfold Builtin.«set.__init__» noKeywords Builtin.Frozenset.updateFrom
      generalize hPI : pyIter = PI
      wp_walk
      subst hPI
      refine wpAny_pyIter_tuple hl1 ?_
      refine wpAny_bind (wpAny_runValue ?_)
      have low : l < s.heap.objs.size := Heap.lt_size hol
      have calm3 : A.in1.in1.in1.handled = none := by simp [calm]
      have neI : l ≠ (s.heap.push { cls := .type "set", dict := none, data := .set #[] 0 (.fresh 0 0 led) }).objs.size := by
        rw [Heap.size_push]; exact Nat.ne_of_lt (Nat.lt_succ_of_lt low)
      have apart : s.heap.objs.size ∉ [(s.heap.push { cls := .type "set", dict := none, data := .set #[] 0 (.fresh 0 0 led) }).objs.size, l] := by
        rw [Heap.size_push]; simp only [List.mem_cons, List.not_mem_nil, or_false, not_or]
        exact ⟨Nat.ne_of_lt (Nat.lt_succ_self _), Nat.ne_of_gt low⟩
      have size : xs.length = items.size := by rw [← StrsAre.len_eq its, Array.length_toList]
      refine set_up ((Walks.tuple calm3 _ l neI items).toS) apart xs size (by rw [← size]; exact room) (fun i v hv => strs_at its i v (by rw [Array.getElem?_toList]; exact hv)) (items.size - 0) 0 _ (by omega) (Nat.zero_le _) ⟨⟨_, Heap.get?_push_size _ rfl, rfl, rfl⟩, (hl1.push _)⟩ ?_ ?_
      · have got : ((s.heap.push { cls := .type "set", dict := none, data := .set #[] 0 (.fresh 0 0 led) }).push { cls := .type "tuple_iterator", data := .fields #[.ref l, .int 0 0] }).get? s.heap.objs.size = some { cls := .type "set", dict := none, data := .set #[] 0 (.fresh 0 0 led) } := Heap.get?_push_of_some _ hS
        exact SetOf_congr ((setObjOf_fresh (knd := PySem.strKind prog w) led).setOf got (by unfold scanBound; omega)) (fun _ => rfl) rfl
      · rintro ⟨h', g', d', tk', os'⟩ m hS'
        obtain rfl : g' = s.gens := m.gens
        obtain rfl : d' = s.drawn := m.drawn
        obtain rfl : os' = s.os := m.os
        show wpAny _ _ _ _ _ _
        refine wpAny_pure ?_
        show wpAny _ _ (ret Value.none) _ _ _
        refine wpAny_pure ⟨rfl, h', tk', rfl, hS', fun b o hb e => ?_⟩
        have far : b ∉ [s.heap.objs.size, (s.heap.push { cls := .type "set", dict := none, data := .set #[] 0 (.fresh 0 0 led) }).objs.size] := by
          rw [Heap.size_push]; simp only [List.mem_cons, List.not_mem_nil, or_false, not_or]
          omega
        exact m.heap b o far (Heap.get?_push_of_some _ (Heap.get?_push_of_some _ e))
    · match r₂, got with
      | .error e, got => exact got
      | .ok (.ret r), ⟨e3, h', tk, e4, hS', kept⟩ =>
        subst e3 e4
        repeat (any_goals (first | assumption | wp_step))
        exact fin _ _ hS' kept
end
section
variable {X : Cx}
/-- len(set(xs)) -/
def tLenSetS (K : PySem.W.Frag) (ta : TE) : TE := fun σ H Q => ta σ H fun x H1 => ∃ l, ∃ xs : List Str, x = .ref l ∧ (SqL K H1 l (xs.map V.str) ∨ SqT K H1 l (xs.map V.str)) ∧ xs.length + 1 < scanBound ∧ Q (.int (many xs.reverse)) H1
theorem pe_lenSetS {a : Expr} {ta : TE} {p p2 q pos : Pos} (hc : X.calm = true) (hg : Gl X "len") (hm : X.mg "len" = none) (hg2 : Gl X "set") (hm2 : X.mg "set" = none) (ha : PE X a ta)
    (na : starEach [a] X.env = (false, eval a X.env) :: starEach [] X.env := by rfl) : PE X (.Call (.Name "len" p) [.Call (.Name "set" p2) [a] [] q] [] pos) (tLenSetS X.K ta) := by
  refine ⟨fun pins s σ H Q I h => Call_ (ld_blt I hg hm boot_len ?_)⟩
  refine PyProof.Rows.callWith_builtin1 (PyProof.Rows.args_cons (Call_ (ld_blt I hg2 hm2 boot_set ?_)) rfl) rfl rfl
  refine PyProof.Rows.callWith_type1 (PyProof.Rows.args_cons (thn (ha.run pins s σ H _ I h) fun v s1 ⟨x, H1, I1, r1, q1⟩ => PyProof.Rows.args_nil ?_) na) na rfl
  obtain ⟨l, xs, rfl, hq, room, q1⟩ := q1
  cases r1
  have fin : ∀ (h' : Heap) (tk : Nat), h'.SetOf (PySem.strKind X.prog X.w) s1.heap.objs.size (fun y => xs.any (· == y)) (many xs.reverse) → (∀ b o, b < s1.heap.objs.size → s1.heap.get? b = some o → h'.get? b = some o) →
      wpAny (model X.prog X.w) X.A (spliced (backTo pos (starEach [] X.env))) (fun vs s₂ => wpAny (model X.prog X.w) X.A (call (.builtin "len") (Value.ref s1.heap.objs.size :: vs)) (EP X pins σ Q) X.xe s₂) X.xe { s1 with heap := h', toks := tk } := fun h' tk hS kept => by
    have few := many_le xs.reverse
    rw [List.length_reverse] at few
    have sb : scanBound ≤ 2 ^ 62 := by unfold scanBound; omega
    obtain ⟨o, es, ep, t, ho, hex, hd, _, _, _, hf, hn⟩ := hS
    have I2 : Inv X pins σ H1 { s1 with heap := h', toks := tk } := I1.kept fun b o e => kept b o (Heap.lt_size e) e
    exact PyProof.Rows.args_nil (call_len_set ho hex hd hf (by rw [hn]; omega) ⟨.int (many xs.reverse), H1, I2.tok _, ⟨_, by rw [hn]⟩, q1⟩)
  rcases hq with hq | hq
  · obtain ⟨its, r, pl, hz⟩ := I1.list hq
    exact set_of_list (I1.ok.hd hc) pl.isList (by simpa using strsAre_of r) room fin
  · obtain ⟨its, r, pl, hz⟩ := I1.tuple hq
    exact set_of_tuple (I1.ok.hd hc) pl (by simpa using strsAre_of r) room fin
end
end OwnL

namespace K10
open PySem PySem.Spec PyProof.Rows L2 OwnL Evl StX
def top (i : Nat) : Stmt := PySem.Challenge.pw_deepasdrawn_k10_papers_and_checks.main.body.getD i (.Pass ⟨0, 0, 0, 0⟩)
abbrev sIsInteger : Stmt := top 6
theorem scIsInteger : FnScope ["value"] ["value"] (defScope sIsInteger) := ⟨rfl, rfl, rfl, by decide +kernel, rfl, by decide +kernel, by decide +kernel⟩
abbrev sIsWithin : Stmt := top 7
theorem scIsWithin : FnScope ["value", "least", "most"] ["value", "least", "most"] (defScope sIsWithin) := ⟨rfl, rfl, rfl, by decide +kernel, rfl, by decide +kernel, by decide +kernel⟩
abbrev sIsListed : Stmt := top 8
theorem scIsListed : FnScope ["value"] ["value"] (defScope sIsListed) := ⟨rfl, rfl, rfl, by decide +kernel, rfl, by decide +kernel, by decide +kernel⟩
abbrev sIsName : Stmt := top 9
theorem scIsName : FnScope ["value", "letter"] ["value"] (defScope sIsName) := ⟨rfl, rfl, rfl, by decide +kernel, rfl, by decide +kernel, by decide +kernel⟩
abbrev sAreNames : Stmt := top 10
theorem scAreNames : FnScope ["value", "most", "name"] ["value", "most"] (defScope sAreNames) := ⟨rfl, rfl, rfl, by decide +kernel, rfl, by decide +kernel, by decide +kernel⟩
abbrev sPen : Stmt := top 26
theorem scPen : FnScope ["script"] ["script"] (defScope sPen) := ⟨rfl, rfl, rfl, by decide +kernel, rfl, by decide +kernel, by decide +kernel⟩
abbrev sDraw : Stmt := top 27
theorem scDraw : FnScope ["pen", "many", "digit", "lap", "cell", "great", "mixed"] ["pen", "many"] (defScope sDraw) := ⟨rfl, rfl, rfl, by decide +kernel, rfl, by decide +kernel, by decide +kernel⟩
abbrev sPick : Stmt := top 28
theorem scPick : FnScope ["pen", "some"] ["pen", "some"] (defScope sPick) := ⟨rfl, rfl, rfl, by decide +kernel, rfl, by decide +kernel, by decide +kernel⟩
abbrev sPlIsNumber : Stmt := top 29
theorem scPlIsNumber : FnScope ["value", "many"] ["value", "many"] (defScope sPlIsNumber) := ⟨rfl, rfl, rfl, by decide +kernel, rfl, by decide +kernel, by decide +kernel⟩
abbrev sPlIsName : Stmt := top 30
theorem scPlIsName : FnScope ["value", "sign"] ["value"] (defScope sPlIsName) := ⟨rfl, rfl, rfl, by decide +kernel, rfl, by decide +kernel, by decide +kernel⟩
abbrev sFixed : Stmt := top 1
theorem scFixed : FnScope ["value", "part"] ["value"] (defScope sFixed) := ⟨rfl, rfl, rfl, by decide +kernel, rfl, by decide +kernel, by decide +kernel⟩
abbrev sAny : Stmt := top 31
theorem scAny : FnScope ["pen", "deep", "way", "some", "turn", "one", "other", "value"] ["pen", "deep"] (defScope sAny) := ⟨rfl, rfl, rfl, by decide +kernel, rfl, by decide +kernel, by decide +kernel⟩
abbrev sLaw : Stmt := top 32
theorem scLaw : FnScope ["script", "pen", "turn", "both", "lap", "one", "two", "three", "value", "told", "due", "papers", "paper", "word", "parts", "is_true", "some"] ["script"] (defScope sLaw) := ⟨rfl, rfl, rfl, by decide +kernel, rfl, by decide +kernel, by decide +kernel⟩
abbrev sPInit : Stmt := inClass (top 2) 0
theorem scPInit : FnScope ["self", "word", "parts"] ["self", "word", "parts"] (defScope sPInit) := ⟨rfl, rfl, rfl, by decide +kernel, rfl, by decide +kernel, by decide +kernel⟩
abbrev sPEq : Stmt := inClass (top 2) 1
theorem scPEq : FnScope ["self", "other"] ["self", "other"] (defScope sPEq) := ⟨rfl, rfl, rfl, by decide +kernel, rfl, by decide +kernel, by decide +kernel⟩
abbrev sPBool : Stmt := inClass (top 2) 2
theorem scPBool : FnScope ["self"] ["self"] (defScope sPBool) := ⟨rfl, rfl, rfl, by decide +kernel, rfl, by decide +kernel, by decide +kernel⟩
abbrev sDBool : Stmt := inClass (top 3) 0
theorem scDBool : FnScope ["self"] ["self"] (defScope sDBool) := ⟨rfl, rfl, rfl, by decide +kernel, rfl, by decide +kernel, by decide +kernel⟩
structure Ad where
  aIsInteger : Addr
  aIsWithin : Addr
  aIsListed : Addr
  aIsName : Addr
  aAreNames : Addr
  aPen : Addr
  aDraw : Addr
  aPick : Addr
  aPlIsNumber : Addr
  aPlIsName : Addr
  aFixed : Addr
  aAny : Addr
  aLaw : Addr
  aPInit : Addr
  aPEq : Addr
  aPBool : Addr
  aDBool : Addr
  aBackI : Addr
  aKeptI : Addr
  aDeepI : Addr
  aBottomlessI : Addr
  aEndsI : Addr
  aComesI : Addr
  aNeverI : Addr
  aSoundI : Addr
  aLosesI : Addr
  aOutsI : Addr
  cPaper : Addr
  cDenial : Addr
  cBack : Addr
  cKept : Addr
  cDeep : Addr
  cBottomless : Addr
  cEnds : Addr
  cComes : Addr
  cNever : Addr
  cSound : Addr
  cLoses : Addr
  cOuts : Addr

structure T10 (mg : Str → Option Value) (K : PySem.W.Frag) (A : Ad) : Prop where
  b_int : mg "int" = none
  b_len : mg "len" = none
  b_abs : mg "abs" = none
  b_list : mg "list" = none
  b_tuple : mg "tuple" = none
  b_isinstance : mg "isinstance" = none
  b_bool : mg "bool" = none
  b_str : mg "str" = none
  b_all : mg "all" = none
  b_repr : mg "repr" = none
  b_set : mg "set" = none
  b_range : mg "range" = none
  gIsInteger : mg "is_integer" = some (.ref A.aIsInteger)
  kIsInteger : PySem.W.keepIn K (.ref A.aIsInteger) = true
  gIsWithin : mg "is_within" = some (.ref A.aIsWithin)
  kIsWithin : PySem.W.keepIn K (.ref A.aIsWithin) = true
  gIsListed : mg "is_listed" = some (.ref A.aIsListed)
  kIsListed : PySem.W.keepIn K (.ref A.aIsListed) = true
  gIsName : mg "is_name" = some (.ref A.aIsName)
  kIsName : PySem.W.keepIn K (.ref A.aIsName) = true
  gAreNames : mg "are_names" = some (.ref A.aAreNames)
  kAreNames : PySem.W.keepIn K (.ref A.aAreNames) = true
  gPen : mg "_law_pen" = some (.ref A.aPen)
  kPen : PySem.W.keepIn K (.ref A.aPen) = true
  gDraw : mg "_law_draw" = some (.ref A.aDraw)
  kDraw : PySem.W.keepIn K (.ref A.aDraw) = true
  gPick : mg "_law_pick" = some (.ref A.aPick)
  kPick : PySem.W.keepIn K (.ref A.aPick) = true
  gPlIsNumber : mg "_law_pl_is_number" = some (.ref A.aPlIsNumber)
  kPlIsNumber : PySem.W.keepIn K (.ref A.aPlIsNumber) = true
  gPlIsName : mg "_law_pl_is_name" = some (.ref A.aPlIsName)
  kPlIsName : PySem.W.keepIn K (.ref A.aPlIsName) = true
  gFixed : mg "fixed" = some (.ref A.aFixed)
  kFixed : PySem.W.keepIn K (.ref A.aFixed) = true
  gAny : mg "_law_any" = some (.ref A.aAny)
  kAny : PySem.W.keepIn K (.ref A.aAny) = true
  gLaw : mg "law" = some (.ref A.aLaw)
  kLaw : PySem.W.keepIn K (.ref A.aLaw) = true
  gPaper : mg "Paper" = some (.ref A.cPaper)
  kPaper : PySem.W.keepIn K (.ref A.cPaper) = true
  gDenial : mg "Denial" = some (.ref A.cDenial)
  kDenial : PySem.W.keepIn K (.ref A.cDenial) = true
  gBack : mg "Back" = some (.ref A.cBack)
  kBack : PySem.W.keepIn K (.ref A.cBack) = true
  gKept : mg "Kept" = some (.ref A.cKept)
  kKept : PySem.W.keepIn K (.ref A.cKept) = true
  gDeep : mg "Deep" = some (.ref A.cDeep)
  kDeep : PySem.W.keepIn K (.ref A.cDeep) = true
  gBottomless : mg "Bottomless" = some (.ref A.cBottomless)
  kBottomless : PySem.W.keepIn K (.ref A.cBottomless) = true
  gEnds : mg "Ends" = some (.ref A.cEnds)
  kEnds : PySem.W.keepIn K (.ref A.cEnds) = true
  gComes : mg "Comes" = some (.ref A.cComes)
  kComes : PySem.W.keepIn K (.ref A.cComes) = true
  gNever : mg "Never" = some (.ref A.cNever)
  kNever : PySem.W.keepIn K (.ref A.cNever) = true
  gSound : mg "Sound" = some (.ref A.cSound)
  kSound : PySem.W.keepIn K (.ref A.cSound) = true
  gLoses : mg "Loses" = some (.ref A.cLoses)
  kLoses : PySem.W.keepIn K (.ref A.cLoses) = true
  gOuts : mg "Outs" = some (.ref A.cOuts)
  kOuts : PySem.W.keepIn K (.ref A.cOuts) = true
  gLETTERS : ∃ t, mg "LETTERS" = some (.str "abcdefghijklmnopqrstuvwxyz" t)

structure F10 (K : PySem.W.Frag) (A : Ad) where
  fIsInteger : FuncData
  FIsInteger : L2.Fun K "is_integer" "is_integer" sIsInteger A.aIsInteger fIsInteger
  fIsWithin : FuncData
  FIsWithin : L2.Fun K "is_within" "is_within" sIsWithin A.aIsWithin fIsWithin
  fIsListed : FuncData
  FIsListed : L2.Fun K "is_listed" "is_listed" sIsListed A.aIsListed fIsListed
  fIsName : FuncData
  FIsName : L2.Fun K "is_name" "is_name" sIsName A.aIsName fIsName
  fAreNames : FuncData
  FAreNames : L2.Fun K "are_names" "are_names" sAreNames A.aAreNames fAreNames
  fPen : FuncData
  FPen : L2.Fun K "_law_pen" "_law_pen" sPen A.aPen fPen
  fDraw : FuncData
  FDraw : L2.Fun K "_law_draw" "_law_draw" sDraw A.aDraw fDraw
  fPick : FuncData
  FPick : L2.Fun K "_law_pick" "_law_pick" sPick A.aPick fPick
  fPlIsNumber : FuncData
  FPlIsNumber : L2.Fun K "_law_pl_is_number" "_law_pl_is_number" sPlIsNumber A.aPlIsNumber fPlIsNumber
  fPlIsName : FuncData
  FPlIsName : L2.Fun K "_law_pl_is_name" "_law_pl_is_name" sPlIsName A.aPlIsName fPlIsName
  fFixed : FuncData
  FFixed : L2.Fun K "fixed" "fixed" sFixed A.aFixed fFixed
  fAny : FuncData
  FAny : L2.Fun K "_law_any" "_law_any" sAny A.aAny fAny
  fLaw : FuncData
  FLaw : L2.Fun K "law" "law" sLaw A.aLaw fLaw
  fPInit : FuncData
  FPInit : L2.Fun K "__init__" "Paper.__init__" sPInit A.aPInit fPInit
  fPEq : FuncData
  FPEq : L2.Fun K "__eq__" "Paper.__eq__" sPEq A.aPEq fPEq
  fPBool : FuncData
  FPBool : L2.Fun K "__bool__" "Paper.__bool__" sPBool A.aPBool fPBool
  fDBool : FuncData
  FDBool : L2.Fun K "__bool__" "Denial.__bool__" sDBool A.aDBool fDBool

section
variable {P : Program} {w : World} {K : PySem.W.Frag} {mg : Str → Option Value} {base : Heap} {A : Ad}
/-! ### which values are integers, lists, names -/
def isIntD : PyData → Bool
  | .int _ => true
  | _ => false
def isSeqD : PyData → Bool
  | .list _ => true
  | .tuple _ => true
  | _ => false
def isLstD : PyData → Bool
  | .list _ => true
  | _ => false
def isTupD : PyData → Bool
  | .tuple _ => true
  | _ => false
def isBoolD : PyData → Bool
  | .bool _ => true
  | _ => false
def isStrD : PyData → Bool
  | .str _ => true
  | _ => false
def tyD : PyData → String
  | .none => "NoneType"
  | .bool _ => "bool"
  | .int _ => "int"
  | .str _ => "str"
  | .list _ => "list"
  | .tuple _ => "tuple"
  | .dict _ => "dict"
theorem tyx_rd {H : Hp} {a : Addr} {xs : List V} (h : SqL K H a xs) : TyX K H (.ref a) (.type "list") := by
  rcases h with (h | ⟨o, h⟩) | ⟨o, its, n, h1, h2, _⟩
  · exact .base (.lst h)
  · exact .base (.frz h)
  · exact .kList h1 h2
theorem tyx_rt {H : Hp} {a : Addr} {xs : List V} (h : SqT K H a xs) : TyX K H (.ref a) (.type "tuple") := by
  rcases h with (h | ⟨o, h⟩) | ⟨o, its, n, h1, h2, _⟩
  · exact .base (.tup h)
  · exact .fTuple h
  · exact .kTuple h1 h2
theorem tyx_of {H : Hp} {v : V} {d : PyData} (h : Dp K H v d) : TyX K H v (.type (tyD d)) := by
  cases h with
  | non => exact .base .non
  | bl b => exact .base (.bl b)
  | int i => exact .base (.int i)
  | str x => exact .base (.str x)
  | lst h _ => exact tyx_rd h
  | tup h _ => exact tyx_rt h
theorem ex_same {H H' : Hp} (e : Ex H H') : Ext H H' := e
theorem isi_int : ∀ d : PyData, d.canLay0 = true → PySem.W.kitOne K (.type (tyD d)) (.type "int") = some (isIntD d || isBoolD d)
  | .none, _ => kit_ty (a := "NoneType") (b := "int") (r := false) (by decide +kernel)
  | .bool _, _ => kit_ty (a := "bool") (b := "int") (r := true) (by decide +kernel)
  | .int _, _ => kit_ty (a := "int") (b := "int") (r := true) (by decide +kernel)
  | .str _, _ => kit_ty (a := "str") (b := "int") (r := false) (by decide +kernel)
  | .list _, _ => kit_ty (a := "list") (b := "int") (r := false) (by decide +kernel)
  | .tuple _, _ => kit_ty (a := "tuple") (b := "int") (r := false) (by decide +kernel)
  | .dict _, h => by simp [PyData.canLay0] at h
theorem isi_bool : ∀ d : PyData, d.canLay0 = true → PySem.W.kitOne K (.type (tyD d)) (.type "bool") = some (isBoolD d)
  | .none, _ => kit_ty (a := "NoneType") (b := "bool") (r := false) (by decide +kernel)
  | .bool _, _ => kit_ty (a := "bool") (b := "bool") (r := true) (by decide +kernel)
  | .int _, _ => kit_ty (a := "int") (b := "bool") (r := false) (by decide +kernel)
  | .str _, _ => kit_ty (a := "str") (b := "bool") (r := false) (by decide +kernel)
  | .list _, _ => kit_ty (a := "list") (b := "bool") (r := false) (by decide +kernel)
  | .tuple _, _ => kit_ty (a := "tuple") (b := "bool") (r := false) (by decide +kernel)
  | .dict _, h => by simp [PyData.canLay0] at h
theorem isi_str : ∀ d : PyData, d.canLay0 = true → PySem.W.kitOne K (.type (tyD d)) (.type "str") = some (isStrD d)
  | .none, _ => kit_ty (a := "NoneType") (b := "str") (r := false) (by decide +kernel)
  | .bool _, _ => kit_ty (a := "bool") (b := "str") (r := false) (by decide +kernel)
  | .int _, _ => kit_ty (a := "int") (b := "str") (r := false) (by decide +kernel)
  | .str _, _ => kit_ty (a := "str") (b := "str") (r := true) (by decide +kernel)
  | .list _, _ => kit_ty (a := "list") (b := "str") (r := false) (by decide +kernel)
  | .tuple _, _ => kit_ty (a := "tuple") (b := "str") (r := false) (by decide +kernel)
  | .dict _, h => by simp [PyData.canLay0] at h
theorem isi_list : ∀ d : PyData, d.canLay0 = true → PySem.W.kitOne K (.type (tyD d)) (.type "list") = some (isLstD d)
  | .none, _ => kit_ty (a := "NoneType") (b := "list") (r := false) (by decide +kernel)
  | .bool _, _ => kit_ty (a := "bool") (b := "list") (r := false) (by decide +kernel)
  | .int _, _ => kit_ty (a := "int") (b := "list") (r := false) (by decide +kernel)
  | .str _, _ => kit_ty (a := "str") (b := "list") (r := false) (by decide +kernel)
  | .list _, _ => kit_ty (a := "list") (b := "list") (r := true) (by decide +kernel)
  | .tuple _, _ => kit_ty (a := "tuple") (b := "list") (r := false) (by decide +kernel)
  | .dict _, h => by simp [PyData.canLay0] at h
theorem isi_tuple : ∀ d : PyData, d.canLay0 = true → PySem.W.kitOne K (.type (tyD d)) (.type "tuple") = some (isTupD d)
  | .none, _ => kit_ty (a := "NoneType") (b := "tuple") (r := false) (by decide +kernel)
  | .bool _, _ => kit_ty (a := "bool") (b := "tuple") (r := false) (by decide +kernel)
  | .int _, _ => kit_ty (a := "int") (b := "tuple") (r := false) (by decide +kernel)
  | .str _, _ => kit_ty (a := "str") (b := "tuple") (r := false) (by decide +kernel)
  | .list _, _ => kit_ty (a := "list") (b := "tuple") (r := false) (by decide +kernel)
  | .tuple _, _ => kit_ty (a := "tuple") (b := "tuple") (r := true) (by decide +kernel)
  | .dict _, h => by simp [PyData.canLay0] at h
theorem rc_isi {H : Hp} {v : V} {d : PyData} {T : String} {b : Bool} (h : Dp K H v d) (k : PySem.W.kitOne K (.type (tyD d)) (.type T) = some b) : RC (rIsi K) [v, .ty T] H (.bl b) := fun H1 e Q q =>
  ⟨v, .ty T, .type (tyD d), .type T, b, rfl, .ty T, tyx_of (Dp.ext e h), k, q H1 (Ex.refl H1)⟩
/-- a pure check of one piece of data -/
def spChk (K : PySem.W.Frag) (φ : PyData → Bool) : Sp := fun vs H Q _ => ∃ v d, vs = [v] ∧ Dp K H v d ∧ d.canLay0 = true ∧ RetV (.bl (φ d)) H Q
theorem spv_chk {H : Hp} {v : V} {d : PyData} {φ : PyData → Bool} (h : Dp K H v d) (hd : d.canLay0 = true) : SpV (spChk K φ) [v] H (.bl (φ d)) := fun H1 e Q q E => ⟨v, d, rfl, Dp.ext e h, hd, fun H2 e2 => q H2 e2⟩
theorem ok_isInteger (F : F10 K A) (T : T10 mg K A) : FnOk P w K mg base CX0 1 A.aIsInteger F.fIsInteger ["value"] (spChk K isIntD) := by
  refine F.FIsInteger.ok scIsInteger (fun vs H Q E h => ?_) (fun cdv Ar outer s H vs Q E hr h => ?_)
  · obtain ⟨v, d, rfl, _⟩ := h
    rfl
  · obtain ⟨v, d, rfl, hd, hc, k⟩ := h
    refine ⟨_, (pss_one (ps_ret (pe_and (pe_callB call_isi (by rfl) T.b_isinstance (by decide +kernel) (pa_cons (pv 0) (pa_cons (pe_bltn (v := .ty "int") (u := .type "int") rfl T.b_int (by decide +kernel) rfl) pa_nil))) (pe_one (pe_not (pe_callB call_isi (by rfl) T.b_isinstance (by decide +kernel) (pa_cons (pv 0) (pa_cons (pe_bltn (v := .ty "bool") (u := .type "bool") rfl T.b_bool (by decide +kernel) rfl) pa_nil)))))))), ?_⟩
    refine s_ret (ev_is (ev_andV (ev_cb (ea_cons (ev_var rfl) (ea_cons ev_c ea_nil)) (rc_isi hd (isi_int d hc))) fun _ => ev_notV (ev_cb (ea_cons (ev_var rfl) (ea_cons ev_c ea_nil)) (rc_isi hd (isi_bool d hc)))) ?_) k
    cases d <;> rfl
theorem isi_seq (d : PyData) (hd : d.canLay0 = true) : PySem.W.kitAny K (.type (tyD d)) [.type "list", .type "tuple"] = some (isSeqD d) :=
  kitAny_cons (b := isLstD d) (isi_list d hd) (fun h => kitAny_cons (b := isTupD d) (isi_tuple d hd) (fun h2 => by
    have e : isSeqD d = false := by cases d <;> simp_all [isLstD, isTupD, isSeqD]
    rw [e]
    exact kitAny_nil) fun h2 => by cases d <;> simp_all [isLstD, isTupD, isSeqD]) fun h => by cases d <;> simp_all [isLstD, isTupD, isSeqD]
theorem ev_isiLT {σ : L2.St} {H : Hp} {v : V} {d : PyData} {te : TE} (h : Ev te σ H v) (hd : Dp K H v d) (hc : d.canLay0 = true) :
    Ev (tCB (rIsiT K) (tCons te (tCons (tTup (tCons (tC (.ty "list")) (tCons (tC (.ty "tuple")) tNil))) tNil))) σ H (.bl (isSeqD d)) := fun H1 e Q q =>
  h H1 e _ fun H2 e2 => ⟨by show 2 ≤ sizeLine; decide, fun p hp => ⟨v, p, [.ty "list", .ty "tuple"], .type (tyD d), [.type "list", .type "tuple"], isSeqD d, rfl, upd_same, .cons (.ty _) (.cons (.ty _) .nil), tyx_of (Dp.ext (e.trans (e2.trans (Ex.new hp))) hd), isi_seq d hc, q _ (e2.trans (Ex.new hp))⟩⟩
theorem ok_isListed (F : F10 K A) (T : T10 mg K A) : FnOk P w K mg base CX0 1 A.aIsListed F.fIsListed ["value"] (spChk K isSeqD) := by
  refine F.FIsListed.ok scIsListed (fun vs H Q E h => ?_) (fun cdv Ar outer s H vs Q E hr h => ?_)
  · obtain ⟨v, d, rfl, _⟩ := h
    rfl
  · obtain ⟨v, d, rfl, hd, hc, k⟩ := h
    exact ⟨_, (pss_one (ps_ret (pe_callB call_isiT (by rfl) T.b_isinstance (by decide +kernel) (pa_cons (pv 0) (pa_cons (pe_tup (pa_cons (pe_bltn (v := .ty "list") (u := .type "list") rfl T.b_list (by decide +kernel) rfl) (pa_cons (pe_bltn (v := .ty "tuple") (u := .type "tuple") rfl T.b_tuple (by decide +kernel) rfl) pa_nil))) pa_nil))))), s_ret (ev_isiLT (ev_var rfl) hd hc) k⟩
/-! ### lists made tuples, all the way in -/
theorem len_weight : ∀ ds : List PyData, ds.length ≤ PyData.weightAll ds
  | [] => Nat.zero_le _
  | d :: ds => by
    have := len_weight ds
    simp only [PyData.weightAll, List.length_cons]
    omega
theorem all_at {ds : List PyData} {i : Nat} {d : PyData} : ds[i]? = some d → d.depth ≤ PyData.depthAll ds ∧ d.weight ≤ PyData.weightAll ds ∧ (PyData.canLayAll0 ds = true → d.canLay0 = true) := by
  induction ds generalizing i with
  | nil => simp
  | cons e ds ih =>
    cases i with
    | zero =>
      intro h
      simp at h
      subst h
      simp only [PyData.depthAll, PyData.weightAll, PyData.canLayAll0, Bool.and_eq_true]
      exact ⟨Nat.le_max_left _ _, by omega, fun h => h.1⟩
    | succ i =>
      intro h
      obtain ⟨h1, h2, h3⟩ := ih (by simpa using h)
      simp only [PyData.depthAll, PyData.weightAll, PyData.canLayAll0, Bool.and_eq_true]
      exact ⟨Nat.le_trans h1 (Nat.le_max_right _ _), by omega, fun h => h3 h.2⟩
def spFixed (K : PySem.W.Frag) (n : Nat) : Sp := fun vs H Q _ => ∃ v d S, vs = [v] ∧ Here S H ∧ Dp K (hid S H) v d ∧ d.canLay0 = true ∧ d.depth ≤ n ∧ d.weight ≤ 40000 ∧ ∀ r H', Ex H H' → Dp K (hid S H') r (tupd d) → Q r H'
theorem dpall_of {K : PySem.W.Frag} {H : Hp} : ∀ {acc : List V} {ds : List PyData}, acc.length = ds.length → (∀ (j : Nat) (u : V) (d : PyData), acc[j]? = some u → ds[j]? = some d → Dp K H u d) → DpAll K H acc ds
  | [], [], _, _ => .nil
  | u :: acc, d :: ds, hl, h => .cons (h 0 u d rfl rfl) (dpall_of (by simpa using hl) fun j u' d' h1 h2 => h (j + 1) u' d' (by simpa using h1) (by simpa using h2))
  | [], _ :: _, hl, _ => by simp at hl
  | _ :: _, [], hl, _ => by simp at hl
theorem ok_fixed (F : F10 K A) (T : T10 mg K A) (n : Nat) : FnOk P w K mg base CX0 (n + 1) A.aFixed F.fFixed ["value"] (spFixed K n) := by
  have bFixed : Binds K F.fFixed ["value"] [] := F.FFixed.binds (fun _ _ _ _ _ _ us hl => match us, hl with | [_], _ => rfl)
  induction n with
  | zero =>
    refine F.FFixed.ok scFixed (fun vs H Q E h => ?_) (fun cdv Ar outer s H vs Q E hr h => ?_)
    · obtain ⟨v, d, S, rfl, _⟩ := h
      rfl
    · obtain ⟨v, d, S, rfl, hS, hd, hc, hn, hw, k⟩ := h
      have hf : isSeqD d = false := by cases d <;> simp_all [isSeqD, PyData.depth]
      have ht : tupd d = d := by cases d <;> simp_all [isSeqD, tupd]
      refine ⟨_, (pss_cons (ps_if (pt_val (pe_callB call_isiT (by rfl) T.b_isinstance (by decide +kernel) (pa_cons (pv 0) (pa_cons (pe_tup (pa_cons (pe_bltn (v := .ty "list") (u := .type "list") rfl T.b_list (by decide +kernel) rfl) (pa_cons (pe_bltn (v := .ty "tuple") (u := .type "tuple") rfl T.b_tuple (by decide +kernel) rfl) pa_nil))) pa_nil)))) (pss_one ps_never) pss_nil)
  (pss_one (ps_ret (pv 0)))), ?_⟩
      refine q_when (et_B (ev_isiLT (ev_var rfl) (Dp.ext (hid_out S) hd) hc)) (fun hb => by rw [hf] at hb; cases hb) fun hb H1 e1 => ?_
      exact s_ret (ev_var rfl) fun H2 e2 => k _ _ (e1.trans e2) (by rw [ht]; exact Dp.ext (hid_ex (e1.trans e2)) hd)
  | succ n GFixed =>
    refine F.FFixed.ok scFixed (fun vs H Q E h => ?_) (fun cdv Ar outer s H vs Q E hr h => ?_)
    · obtain ⟨v, d, S, rfl, _⟩ := h
      rfl
    · obtain ⟨v, d, S, rfl, hS, hd, hc, hn, hw, k⟩ := h
      have hr1 := hr
      refine ⟨_, (pss_cons (ps_if (pt_val (pe_callB call_isiT (by rfl) T.b_isinstance (by decide +kernel) (pa_cons (pv 0) (pa_cons (pe_tup (pa_cons (pe_bltn (v := .ty "list") (u := .type "list") rfl T.b_list (by decide +kernel) rfl) (pa_cons (pe_bltn (v := .ty "tuple") (u := .type "tuple") rfl T.b_tuple (by decide +kernel) rfl) pa_nil))) pa_nil)))) (pss_one (ps_ret (pe_callTy call_tuple_of (by rfl) T.b_tuple (by decide +kernel) (pa_cons (pe_lc (own := [("part", 1)]) rfl scFixed.nd (pi_or (pi_list (pv 0)) (pi_tup (pv 0))) (blkOk_by (own := [("part", 1)]) (N := ["value", "part"]) (sc := defScope (top 1)) (by decide +kernel)) (fun _ _ _ _ _ => (pg_name (i := 1) scFixed.nd rfl (Or.inl rfl))) (fun _ _ _ _ _ => pts_nil) (fun _ _ _ _ _ => (pe_call GFixed hr1 rfl T.gFixed T.kFixed bFixed .nil pass0 (pa_cons (pv 1) pa_nil)))) pa_nil)))) pss_nil)
  (pss_one (ps_ret (pv 0)))), ?_⟩
      refine q_when (et_B (ev_isiLT (ev_var rfl) (Dp.ext (hid_out S) hd) hc)) (fun hb H1 e1 => ?_) fun hb H1 e1 => ?_
      · have both : ∃ a xs ds, v = .ref a ∧ (SqL K H1 a xs ∨ SqT K H1 a xs) ∧ DpAll K (hid S H1) xs ds ∧ tupd d = .tuple (tupdAll ds) ∧ PyData.canLayAll0 ds = true ∧ PyData.depthAll ds ≤ n ∧ PyData.weightAll ds ≤ 40000 := by
          cases hd with
          | lst h1 h2 => exact ⟨_, _, _, rfl, .inl (SqL.ext h1 ((hid_out S).trans e1)), DpAll.ext (hid_ex e1) h2, by simp only [tupd], by simpa only [PyData.canLay0] using hc, by simp only [PyData.depth] at hn; omega, by simpa only [PyData.weight] using hw⟩
          | tup h1 h2 => exact ⟨_, _, _, rfl, .inr (SqT.ext h1 ((hid_out S).trans e1)), DpAll.ext (hid_ex e1) h2, by simp only [tupd], by simpa only [PyData.canLay0] using hc, by simp only [PyData.depth] at hn; omega, by simpa only [PyData.weight] using hw⟩
          | non => cases hb
          | bl => cases hb
          | int => cases hb
          | str => cases hb
        obtain ⟨a, xs, ds, rfl, hq, ha, ht, hc2, hn2, hw2⟩ := both
        have hl : xs.length = ds.length := DpAll.length ha
        have hlw := len_weight ds
        have hw1 : ∀ x : V, wipe ((wipe (L2.start ["value", "part"] [V.ref a]) [1]).set 1 (some x)) [1] = wipe (L2.start ["value", "part"] [V.ref a]) [1] := fun x => rfl
        have he : ∀ i H2 D acc, i < xs.length → Ex H1 H2 → H1 D = none → H2 D = some (.lst acc) → EvP (tCall (spFixed K n) [] (fun _ _ _ => False) (tCons (tVar 1) tNil)) ((wipe (L2.start ["value", "part"] [V.ref a]) [1]).set 1 (some (xs.getD i .non))) H2 (fun u H3 => ∀ d', ds[i]? = some d' → Dp K (hid S (hide D H3)) u (tupd d')) := fun i H2 D acc hi e2 hD hD2 => by
          have hx : xs[i]? = some (xs.getD i .non) := by simp [List.getD, List.getElem?_eq_getElem hi]
          obtain ⟨di, hdi, hdp⟩ := DpAll.get ha hx
          obtain ⟨q1, q2, q3⟩ := all_at hdi
          refine ep_call (EvPs.of (ea_cons (ev_var rfl) ea_nil)) fun vs H3 e3 hvs Q' q => ?_
          subst hvs
          refine ⟨_, di, D :: S, rfl, (Here.cons (hS.up (e1.trans e2)) hD2).up e3, Dp.ext (hid_fresh hD (e2.trans e3)) hdp, q3 hc2, by omega, by omega, fun r H4 e4 hr4 => q r H4 e4 fun d' hd' => ?_⟩
          rw [hdi] at hd'
          cases hd'
          rw [hid_hide]
          exact hr4
        have fin : ∀ D H2, H1 D = none → Ex H1 H2 → (∃ acc : List V, H2 D = some (.lst acc) ∧ acc.length = xs.length ∧ ∀ (j : Nat) (u : V), acc[j]? = some u → ∀ d', ds[j]? = some d' → Dp K (hid S (hide D H2)) u (tupd d')) →
            ∃ p ys, [V.ref D] = [V.ref p] ∧ ((SqL K H2 p ys ∧ ∀ l, H2 l = none → Q (.ref l) (upd H2 l (.tup ys))) ∨ (SqT K H2 p ys ∧ Q (.ref p) H2)) := fun D H2 hD e2 ⟨acc, h1, h2, h3⟩ => by
          refine ⟨D, acc, rfl, .inl ⟨SqL.of h1, fun l hl2 => k _ _ (e1.trans (e2.trans (Ex.new hl2))) ?_⟩⟩
          rw [ht]
          refine .tup (SqT.of (hid_at ((hS.up (e1.trans e2)).not hl2) upd_same)) ?_
          rw [tupdAll_map]
          refine dpall_of (by rw [List.length_map]; omega) fun j u d' g1 g2 => ?_
          rw [List.getElem?_map, Option.map_eq_some_iff] at g2
          obtain ⟨d0, g3, rfl⟩ := g2
          have g4 := h3 j u g1 d0 g3
          rw [hid_hide] at g4
          exact Dp.ext (hid_ex (Ex.new hl2)) (Dp.ext hid_less g4)
        have up : ∀ i : Nat, Up (fun (u : V) H3 => ∀ d', ds[i]? = some d' → Dp K (hid S H3) u (tupd d')) := fun i u Ha Hb e p d' hd' => Dp.ext (hid_ex e) (p d' hd')
        have yat : ∀ i H2 x H3, i < xs.length → Ex H1 H2 → YAt xs i H2 x H3 → H3 = H2 ∧ x = xs.getD i .non := fun i H2 x H3 hi e2 y => ⟨y.1, by simp [List.getD, y.2]⟩
        rcases hq with hq | hq
        · refine .inl ⟨_, rfl, a, rfl, ⟨xs, hq⟩, ?_⟩
          exact ep_lc (walk_list (K := K) (a := a) (xs := xs)) (fun i => xs.getD i .non) (fun (i : Nat) u H3 => ∀ d', ds[i]? = some d' → Dp K (hid S H3) u (tupd d')) (fun H' e => SqL.ext hq e) yat (by omega) hw1 up he (fun (x : V) (H2 : Hp) => ∃ p ys, [x] = [V.ref p] ∧ ((SqL K H2 p ys ∧ ∀ l, H2 l = none → Q (.ref l) (upd H2 l (.tup ys))) ∨ (SqT K H2 p ys ∧ Q (.ref p) H2))) fin
        · refine .inr ⟨_, rfl, a, rfl, ⟨xs, hq⟩, ?_⟩
          exact ep_lc (walk_tup (K := K) (a := a) (xs := xs)) (fun i => xs.getD i .non) (fun (i : Nat) u H3 => ∀ d', ds[i]? = some d' → Dp K (hid S H3) u (tupd d')) (fun H' e => SqT.ext hq e) yat (by omega) hw1 up he (fun (x : V) (H2 : Hp) => ∃ p ys, [x] = [V.ref p] ∧ ((SqL K H2 p ys ∧ ∀ l, H2 l = none → Q (.ref l) (upd H2 l (.tup ys))) ∨ (SqT K H2 p ys ∧ Q (.ref p) H2))) fin
      · have ht : tupd d = d := by cases d <;> simp_all [isSeqD, tupd]
        exact s_ret (ev_var rfl) fun H2 e2 => k _ _ (e1.trans e2) (by rw [ht]; exact Dp.ext (hid_ex (e1.trans e2)) hd)
end
section
variable {P : Program} {w : World} {K : PySem.W.Frag} {mg : Str → Option Value} {base : Heap} {A : Ad}
/-! ### papers -/
def fieldNames : List Str := ["word", "parts", "row", "levels", "frames", "most", "calls", "again"]
structure ClsT (K : PySem.W.Frag) (A : Ad) (C : Addr) (nm : Str) (bf : Addr) (den : Bool) : Prop where
  cl : Cls K C
  no : ∀ f ∈ fieldNames, NoAttr K C f
  nm : ClsNm K C nm
  eq : PySem.W.findIn K (.ref C) "__eq__" = some (some (.ref A.aPEq))
  ne : PySem.W.findIn K (.ref C) "__ne__" = some (some (.builtin "object.__ne__"))
  bo : PySem.W.findIn K (.ref C) "__bool__" = some (some (.ref bf))
  pap : PySem.W.kitOne K (.ref C) (.ref A.cPaper) = some true
  den : PySem.W.kitOne K (.ref C) (.ref A.cDenial) = some den
/-- what Paper's own __init__ does -/
def spPInit (K : PySem.W.Frag) (n : Nat) : Sp := fun vs H Q _ => ∃ (x C dx : Addr) (wd : Str) (rest : List V) (ds : List PyData) (S : List Addr), vs = .ref x :: .str wd :: rest ∧ H x = some (.ins C dx []) ∧ Cls K C ∧ (∀ f ∈ fieldNames, NoAttr K C f) ∧ Here S H ∧
  DpAll K (hid (x :: S) H) rest ds ∧ PyData.canLayAll0 ds = true ∧ PyData.depthAll ds + 1 ≤ n ∧ PyData.weightAll ds ≤ 40000 ∧
  ∀ q H', Ex (hide x H) (hide x H') → H' x = some (.ins C dx [("word", .str wd), ("parts", .ref q)]) → Dp K (hid (x :: S) H') (.ref q) (.tuple (tupdAll ds)) → Q .non H'
theorem ok_pinit (F : F10 K A) (T : T10 mg K A) (n : Nat) : FnR P w K mg base CX0 (n + 2) A.aPInit (spPInit K n) := by
  have bFixed : Binds K F.fFixed ["value"] [] := F.FFixed.binds (fun _ _ _ _ _ _ us hl => match us, hl with | [_], _ => rfl)
  have GFixed := ok_fixed (P := P) (w := w) (mg := mg) (base := base) F T n
  obtain ⟨oc, od, kV, doc, pm, an, cdv, ct, osl, hfd, lk, hcd⟩ := F.FPInit.ex
  rw [hfd] at lk
  refine FnR.imp (fn_star (ps := ["self", "word"]) (pv := "parts") (sp := fun vs H Q _ => ∃ (x C dx p : Addr) (wd : Str) (ds : List PyData) (S : List Addr), vs = [.ref x, .str wd, .ref p] ∧ H x = some (.ins C dx []) ∧ Cls K C ∧ (∀ f ∈ fieldNames, NoAttr K C f) ∧ Here S H ∧
    Dp K (hid (x :: S) H) (.ref p) (.tuple ds) ∧ PyData.canLayAll0 ds = true ∧ PyData.depthAll ds + 1 ≤ n ∧ PyData.weightAll ds ≤ 40000 ∧
    ∀ q H', Ex (hide x H) (hide x H') → H' x = some (.ins C dx [("word", .str wd), ("parts", .ref q)]) → Dp K (hid (x :: S) H') (.ref q) (.tuple (tupdAll ds)) → Q .non H') lk hcd scPInit cxUp_none (bind_star2 (B := fun vs => bindArgs (PySem.W.fnOf "__init__" "Paper.__init__" (defArgs sPInit) (defBody sPInit) (defScope sPInit) .none kV doc pm an cdv ct) ⟨vs, []⟩) (p1 := "self") (p2 := "word") (pv := "parts") (fun a b => rfl) (fun a b r rs => rfl)) ?_) ?_
  · intro Ar outer s H vs Q E hr h
    obtain ⟨x, C, dx, p, wd, ds, S, rfl, hx, hC, hno, hS, hp, hc, hn, hw, k⟩ := h
    have hr1 := hr
    refine ⟨_, PSs.nox (pss_cons (ps_fld (pv 0) (pv 1) rfl)
  (pss_one (ps_fld (pv 0) (pe_call GFixed hr1 rfl T.gFixed T.kFixed bFixed .nil pass0 (pa_cons (pv 2) pa_nil)) rfl))), ?_⟩
    refine ⟨_, rfl, _, rfl, x, C, dx, [], rfl, hx, hC, hno _ (by decide), by decide, ?_⟩
    refine ⟨_, rfl, .ref p, .tuple ds, x :: S, rfl, Here.cons hS.set upd_same, ?_, by simpa only [PyData.canLay0] using hc, by simp only [PyData.depth]; omega, by simp only [PyData.weight]; omega, fun r H' e hr' => ?_⟩
    · rw [hid_upd List.mem_cons_self]
      exact hp
    · simp only [tupd] at hr'
      obtain ⟨q, rfl⟩ : ∃ q, r = .ref q := by cases hr' with | tup h1 h2 => exact ⟨_, rfl⟩
      refine ⟨_, rfl, x, C, dx, [("word", .str wd)], rfl, e x _ upd_same, hC, hno _ (by decide), (by show 1 < 1000; decide), ?_⟩
      refine k q _ ?_ upd_same ?_
      · rw [hide_upd]
        have := hide_ex (p := x) e
        rw [hide_upd] at this
        exact this
      · rw [hid_upd List.mem_cons_self]
        exact hr'
  · intro vs H Q E h
    obtain ⟨x, C, dx, wd, rest, ds, S, rfl, hx, hC, hno, hS, hp, hc, hn, hw, k⟩ := h
    have hl := DpAll.length hp
    have hlw := len_weight ds
    refine ⟨[.ref x, .str wd], rest, rfl, rfl, sz_of (by omega), fun p hpn => ?_⟩
    have xp : x ≠ p := ne_of_none hx hpn
    refine ⟨x, C, dx, p, wd, ds, S, rfl, by rw [upd_ne xp]; exact hx, hC, hno, hS.up (Ex.new hpn), ?_, hc, hn, hw, fun q H' e h1 h2 => k q H' (Ex.trans (hide_ex (Ex.new hpn)) e) h1 h2⟩
    have np : p ∉ x :: S := fun z => by
      rcases List.mem_cons.mp z with z | z
      · exact xp z.symm
      · exact hS.not hpn z
    exact .tup (SqT.of (hid_at np upd_same)) (DpAll.ext (hid_ex (Ex.new hpn)) hp)
end
section
variable {P : Program} {w : World} {K : PySem.W.Frag} {mg : Str → Option Value} {base : Heap} {A : Ad}
theorem ev_clsNm {σ : L2.St} {H : Hp} {ta : TE} {a C dx : Addr} {fs : List (Str × V)} {nm : Str} (h : Ev ta σ H (.ref a)) (ho : H a = some (.ins C dx fs)) (N : ClsNm K C nm) : Ev (tClsNm K ta) σ H (.str nm) := fun H1 e Q q =>
  h H1 e _ fun H2 e2 => ⟨a, C, dx, fs, nm, rfl, (e.trans e2) a _ ho, N, q H2 e2⟩
theorem ev_fld {σ : L2.St} {H : Hp} {ta : TE} {a C dx : Addr} {fs : List (Str × V)} {f : Str} {v : V} (h : Ev ta σ H (.ref a)) (ho : H a = some (.ins C dx fs)) (c : Cls K C) (n : NoAttr K C f) (hl : fs.lookup f = some v) : Ev (tFld K ta f) σ H v := fun H1 e Q q =>
  h H1 e _ fun H2 e2 => ⟨a, C, dx, fs, v, rfl, (e.trans e2) a _ ho, c, n, hl, q H2 e2⟩
theorem rv_eqD {H : Hp} {x y : V} {d e : PyData} (hd : Dp K H x d) (he : Dp K H y e) (sd : SeqAt.shaped d = true) (se : SeqAt.shaped e = true) : RV (rEqD K) x y H (.bl (PyData.eqv d e)) := fun H1 up Q q =>
  ⟨d, e, Dp.ext up hd, Dp.ext up he, sd, se, q H1 (Ex.refl H1)⟩
theorem rc_isiI {H : Hp} {a C D dx : Addr} {fs : List (Str × V)} {nm : Str} {b : Bool} (ho : H a = some (.ins C dx fs)) (c : Cls K C) (N : ClsNm K C nm) (k : PySem.W.kitOne K (.ref C) (.ref D) = some b) : RC (rIsi K) [.ref a, .ref D] H (.bl b) := fun H1 e Q q =>
  ⟨.ref a, .ref D, .ref C, .ref D, b, rfl, .own D, .base (.ins (e a _ ho) c N.fc N.sg N.tk N.mo), k, q H1 (Ex.refl H1)⟩
/-- a paper at a: its class, its word, its parts -/
structure Pap (K : PySem.W.Frag) (H : Hp) (a C : Addr) (wd : Str) (d : PyData) : Prop where
  at_ : ∃ (dx : Addr) (fs : List (Str × V)), H a = some (.ins C dx fs) ∧ fs.lookup ("word" : Str) = some (V.str wd) ∧ ∃ v : V, fs.lookup ("parts" : Str) = some v ∧ Dp K H v d
theorem Pap.ext {H H' : Hp} {a C : Addr} {wd : Str} {d : PyData} (e : Ex H H') (p : Pap K H a C wd d) : Pap K H' a C wd d := by
  obtain ⟨dx, fs, h1, h2, v, h3, h4⟩ := p.at_
  exact ⟨dx, fs, e a _ h1, h2, v, h3, Dp.ext e h4⟩
def spPEq (K : PySem.W.Frag) (A : Ad) : Sp := fun vs H Q _ => ∃ (a b C D : Addr) (nm nm' wd wd' : Str) (bf bf' : Addr) (den den' : Bool) (d d' : PyData), vs = [.ref a, .ref b] ∧ ClsT K A C nm bf den ∧ ClsT K A D nm' bf' den' ∧ Pap K H a C wd d ∧ Pap K H b D wd' d' ∧
  SeqAt.shaped d = true ∧ SeqAt.shaped d' = true ∧ RetV (.bl (decide (nm = nm') && (decide (wd = wd') && PyData.eqv d d'))) H Q
theorem ok_peq (F : F10 K A) (T : T10 mg K A) : FnOk P w K mg base CX0 1 A.aPEq F.fPEq ["self", "other"] (spPEq K A) := by
  refine F.FPEq.ok scPEq (fun vs H Q E h => ?_) (fun cdv Ar outer s H vs Q E hr h => ?_)
  · obtain ⟨a, b, C, D, nm, nm', wd, wd', bf, bf', den, den', d, d', rfl, _⟩ := h
    rfl
  · obtain ⟨a, b, C, D, nm, nm', wd, wd', bf, bf', den, den', d, d', rfl, c, c', p, p', sd, sd', k⟩ := h
    obtain ⟨dx, fs, ho, hw, v, hv, hd⟩ := p.at_
    obtain ⟨dy, gs, ho', hw', v', hv', hd'⟩ := p'.at_
    have hu := hr.units
    refine ⟨_, (pss_cons (ps_if (PW.pt (pw_or (pt_not (pt_val (pe_callB call_isi (by rfl) T.b_isinstance (by decide +kernel) (pa_cons (pv 1) (pa_cons (pe_glob (v := .ref A.cPaper) rfl T.gPaper rfl) pa_nil))))) (pw_or1 (pt_cmpR op_ne (pe_clsNm (pv 0) rfl rfl) (pe_clsNm (pv 1) rfl rfl) (nomark _))))) (pss_one (ps_ret pe_bl)) pss_nil)
  (pss_one (ps_ret (pe_callTy call_bool1 (by rfl) T.b_bool (by decide +kernel) (pa_cons (pe_and (pe_cmpR op_eq (pe_fld (pv 0) rfl) (pe_fld (pv 1) rfl) (nomark _)) (pe_one (pe_cmpR (op_eqD hu) (pe_fld (pv 0) rfl) (pe_fld (pv 1) rfl) (nomark _)))) pa_nil))))), ?_⟩
    refine q_when (b := !decide (nm = nm')) (et_is (et_or (et_not (et_B (ev_cb (ea_cons (ev_var rfl) (ea_cons ev_c ea_nil)) (rc_isiI ho' c'.cl c'.nm c'.pap)))) fun _ => et_test (ev_op (ev_clsNm (ev_var rfl) ho c.nm) (ev_clsNm (ev_var rfl) ho' c'.nm) (rv_ne rfl))) ?_) (fun hb H1 e1 => ?_) fun hb H1 e1 => ?_
    · by_cases h : nm = nm'
      · subst h; simp
      · have : ¬ (V.str nm = V.str nm') := fun z => h (V.str.inj z)
        simp [h, this]
    · have hn : decide (nm = nm') = false := by simpa using hb
      refine s_ret ev_c fun H2 e2 => ?_
      have := k H2 (e1.trans e2)
      rw [hn] at this
      exact this
    · have hn : decide (nm = nm') = true := by simpa using hb
      refine s_ret (v := .bl (decide (wd = wd') && PyData.eqv d d')) (ev_cb (ea_cons (ev_andV (a := decide (wd = wd')) (ev_is (ev_op (ev_fld (ev_var rfl) (e1 a _ ho) c.cl (c.no _ (by decide)) hw) (ev_fld (ev_var rfl) (e1 b _ ho') c'.cl (c'.no _ (by decide)) hw') (rv_eq rfl)) ?_) fun _ => ev_op (ev_fld (ev_var rfl) (e1 a _ ho) c.cl (c.no _ (by decide)) hv) (ev_fld (ev_var rfl) (e1 b _ ho') c'.cl (c'.no _ (by decide)) hv') (rv_eqD (Dp.ext e1 hd) (Dp.ext e1 hd') sd sd')) ea_nil) fun H2 e2 Q' q => .inr ⟨_, rfl, q H2 (Ex.refl H2)⟩) fun H2 e2 => ?_
      · by_cases h : wd = wd'
        · subst h; simp
        · have : ¬ (V.str wd = V.str wd') := fun z => h (V.str.inj z)
          simp [h, this]
      · have := k H2 (e1.trans e2)
        rw [hn] at this
        exact this
def spBool (b : Bool) : Sp := fun vs H Q _ => ∃ x, vs = [x] ∧ Q (.bl b) H
theorem ok_pbool (F : F10 K A) : FnOk P w K mg base CX0 1 A.aPBool F.fPBool ["self"] (spBool true) := by
  refine F.FPBool.ok scPBool (fun vs H Q E h => ?_) (fun cdv Ar outer s H vs Q E hr h => ?_)
  · obtain ⟨x, rfl, _⟩ := h
    rfl
  · obtain ⟨x, rfl, k⟩ := h
    exact ⟨_, (pss_one (ps_ret pe_bl)), k⟩
theorem ok_dbool (F : F10 K A) : FnOk P w K mg base CX0 1 A.aDBool F.fDBool ["self"] (spBool false) := by
  refine F.FDBool.ok scDBool (fun vs H Q E h => ?_) (fun cdv Ar outer s H vs Q E hr h => ?_)
  · obtain ⟨x, rfl, _⟩ := h
    rfl
  · obtain ⟨x, rfl, k⟩ := h
    exact ⟨_, (pss_one (ps_ret pe_bl)), k⟩
end
section
variable {P : Program} {w : World} {K : PySem.W.Frag} {mg : Str → Option Value} {base : Heap} {A : Ad}
/-- an __init__ that begins with super().__init__: its code, its cell -/
def FunX (P : Program) (K : PySem.W.Frag) (mg : Str → Option Value) (f f2 C : Addr) (qual : Str) (st : Stmt) (fd : FuncData) : Prop :=
  ∃ (oc : Value) (od : Option Addr) (kV doc pm : Value) (an : Option Addr) (cda : Addr) (ct : Value) (osl : Array (Option Value)) (cc : Addr), fd = PySem.W.fnX "__init__" qual (defArgs st) (defBody st) (defScope st) [("__class__", cc)] .none kV doc pm an (.ref cda) ct ∧
    K.lookup f = some ⟨oc, od, .func (PySem.W.fnX "__init__" qual (defArgs st) (defBody st) (defScope st) [("__class__", cc)] .none kV doc pm an (.ref cda) ct), osl⟩ ∧ PySem.W.codeIn K (.ref cda) qual = true ∧ SupFacts P K mg C C f2 cda cc
theorem len1 {α : Type} {l : List α} (h : l.length = 1) : ∃ a, l = [a] := by
  match l, h with
  | [a], _ => exact ⟨a, rfl⟩
theorem len2 {α : Type} {l : List α} (h : l.length = 2) : ∃ a b, l = [a, b] := by
  match l, h with
  | [a, b], _ => exact ⟨a, b, rfl⟩
theorem len3 {α : Type} {l : List α} (h : l.length = 3) : ∃ a b c, l = [a, b, c] := by
  match l, h with
  | [a, b, c], _ => exact ⟨a, b, c, rfl⟩
def spNew (K : PySem.W.Frag) (C : Addr) (wd : Str) (names : List Str) (n : Nat) : Sp := fun vs H Q _ => ∃ (x dx : Addr) (vs' : List V) (ds : List PyData) (S : List Addr), vs = .ref x :: vs' ∧ vs'.length = names.length ∧ H x = some (.ins C dx []) ∧ Here S H ∧ DpAll K (hid (x :: S) H) vs' ds ∧
  PyData.canLayAll0 ds = true ∧ PyData.depthAll ds + 1 ≤ n ∧ PyData.weightAll ds ≤ 40000 ∧ ∀ q us H', Ex (hide x H) (hide x H') → us.length = names.length → H' x = some (.ins C dx (("word", .str wd) :: ("parts", .ref q) :: names.zip us)) → SqT K (hid (x :: S) H') q us → DpAll K (hid (x :: S) H') us (tupdAll ds) → Q .non H'
abbrev sBackI : Stmt := inClass (top 12) 0
theorem scBackI : SupScope ["self", "row"] ["self", "row"] (defScope sBackI) := ⟨rfl, rfl, rfl, by decide +kernel, rfl, by decide +kernel, by decide +kernel, by decide +kernel, rfl, rfl⟩
theorem ok_Back (F : F10 K A) (T : T10 mg K A) {fd : FuncData} (M : FunX P K mg A.aBackI A.aPInit A.cBack "Back.__init__" sBackI fd) (c : Cls K A.cBack) (hno : ∀ f ∈ fieldNames, NoAttr K A.cBack f) (n : Nat) : FnOk P w K mg base CX0 (n + 3) A.aBackI fd ["self", "row"] (spNew K A.cBack "back" ["row"] n) := by
  obtain ⟨oc, od, kV, doc, pm, an, cda, ct, osl, cc, rfl, lk, hcd, SF⟩ := M
  have F2 := ok_pinit (P := P) (w := w) (mg := mg) (base := base) F T n
  refine fn_super (k := n + 2) (rest := (defBody sBackI).tail) rfl lk hcd scBackI SF.cell rfl rfl (by decide) (fun vs H Q E h => ?_) F2 (fun _ => rfl) (fun _ => rfl) (fun _ => rfl) (fun _ => rfl) fun Ar outer s H vs Q E hr h => ?_
  · obtain ⟨x, dx, vs', ds, S, rfl, hl, _⟩ := h
    simpa using hl
  · obtain ⟨x, dx, vs', ds, S, rfl, hl, hx, hS, hp, hc, hn, hw, k⟩ := h
    obtain ⟨v0, rfl⟩ := len1 hl
    refine ⟨A.cBack, dx, [], x, _, _, rfl, hx, SF, hr, fun _ _ _ _ _ _ _ z => False.elim z, (pa_cons pe_str (pa_cons (pv 1) pa_nil)), pss_one (ps_asg (pe_fld (pv 0) rfl) (pg_tup rfl (pgs_cons (pg_fld (pv 0)) pgs_nil))), fun z hz => ?_⟩
    refine ⟨_, rfl, upd_same, ?_⟩
    refine ⟨x, A.cBack, dx, "back", [v0], ds, S, rfl, by rw [upd_ne (ne_of_none hx hz)]; exact hx, c, hno, hS.up (Ex.new hz), DpAll.ext (hid_ex (Ex.new hz)) hp, hc, hn, hw, fun q H2 e h1 h2 => ?_⟩
    obtain ⟨us, hq, ha⟩ : ∃ us, SqT K (hid (x :: S) H2) q us ∧ DpAll K (hid (x :: S) H2) us (tupdAll ds) := by cases h2 with | tup g1 g2 => exact ⟨_, g1, g2⟩
    have hl2 : us.length = 1 := by
      have e1 := DpAll.length ha
      have e2 := DpAll.length hp
      rw [tupdAll_map, List.length_map] at e1
      simp at e2
      omega
    obtain ⟨u0, rfl⟩ := len1 hl2
    refine ⟨_, rfl, x, A.cBack, dx, _, _, rfl, h1, c, hno _ (by decide), rfl, ?_⟩
    refine ⟨q, _, rfl, SqT.ext hq (hid_out _), rfl, ?_⟩
    refine ⟨u0, [], rfl, _, rfl, x, _, dx, _, rfl, h1, c, hno _ (by decide), (by show 2 < 1000; decide), ?_⟩
    refine ⟨rfl, ?_⟩
    refine k q [u0] _ ?_ rfl upd_same ?_ ?_
    · repeat rw [hide_upd]
      exact Ex.trans (hide_ex (Ex.new hz)) e
    · repeat rw [hid_upd List.mem_cons_self]
      exact hq
    · repeat rw [hid_upd List.mem_cons_self]
      exact ha

abbrev sKeptI : Stmt := inClass (top 13) 0
theorem scKeptI : SupScope ["self", "levels", "frames"] ["self", "levels", "frames"] (defScope sKeptI) := ⟨rfl, rfl, rfl, by decide +kernel, rfl, by decide +kernel, by decide +kernel, by decide +kernel, rfl, rfl⟩
theorem ok_Kept (F : F10 K A) (T : T10 mg K A) {fd : FuncData} (M : FunX P K mg A.aKeptI A.aPInit A.cKept "Kept.__init__" sKeptI fd) (c : Cls K A.cKept) (hno : ∀ f ∈ fieldNames, NoAttr K A.cKept f) (n : Nat) : FnOk P w K mg base CX0 (n + 3) A.aKeptI fd ["self", "levels", "frames"] (spNew K A.cKept "kept" ["levels", "frames"] n) := by
  obtain ⟨oc, od, kV, doc, pm, an, cda, ct, osl, cc, rfl, lk, hcd, SF⟩ := M
  have F2 := ok_pinit (P := P) (w := w) (mg := mg) (base := base) F T n
  refine fn_super (k := n + 2) (rest := (defBody sKeptI).tail) rfl lk hcd scKeptI SF.cell rfl rfl (by decide) (fun vs H Q E h => ?_) F2 (fun _ => rfl) (fun _ => rfl) (fun _ => rfl) (fun _ => rfl) fun Ar outer s H vs Q E hr h => ?_
  · obtain ⟨x, dx, vs', ds, S, rfl, hl, _⟩ := h
    simpa using hl
  · obtain ⟨x, dx, vs', ds, S, rfl, hl, hx, hS, hp, hc, hn, hw, k⟩ := h
    obtain ⟨v0, v1, rfl⟩ := len2 hl
    refine ⟨A.cKept, dx, [], x, _, _, rfl, hx, SF, hr, fun _ _ _ _ _ _ _ z => False.elim z, (pa_cons pe_str (pa_cons (pv 1) (pa_cons (pv 2) pa_nil))), pss_one (ps_asg (pe_fld (pv 0) rfl) (pg_tup rfl (pgs_cons (pg_fld (pv 0)) (pgs_cons (pg_fld (pv 0)) pgs_nil)))), fun z hz => ?_⟩
    refine ⟨_, rfl, _, rfl, upd_same, ?_⟩
    refine ⟨x, A.cKept, dx, "kept", [v0, v1], ds, S, rfl, by rw [upd_ne (ne_of_none hx hz)]; exact hx, c, hno, hS.up (Ex.new hz), DpAll.ext (hid_ex (Ex.new hz)) hp, hc, hn, hw, fun q H2 e h1 h2 => ?_⟩
    obtain ⟨us, hq, ha⟩ : ∃ us, SqT K (hid (x :: S) H2) q us ∧ DpAll K (hid (x :: S) H2) us (tupdAll ds) := by cases h2 with | tup g1 g2 => exact ⟨_, g1, g2⟩
    have hl2 : us.length = 2 := by
      have e1 := DpAll.length ha
      have e2 := DpAll.length hp
      rw [tupdAll_map, List.length_map] at e1
      simp at e2
      omega
    obtain ⟨u0, u1, rfl⟩ := len2 hl2
    refine ⟨_, rfl, x, A.cKept, dx, _, _, rfl, h1, c, hno _ (by decide), rfl, ?_⟩
    refine ⟨q, _, rfl, SqT.ext hq (hid_out _), rfl, ?_⟩
    refine ⟨u0, [u1], rfl, _, rfl, x, _, dx, _, rfl, h1, c, hno _ (by decide), (by show 2 < 1000; decide), ?_⟩
    refine ⟨u1, [], rfl, _, rfl, x, _, dx, _, rfl, upd_same, c, hno _ (by decide), (by show 3 < 1000; decide), ?_⟩
    refine ⟨rfl, ?_⟩
    refine k q [u0, u1] _ ?_ rfl upd_same ?_ ?_
    · repeat rw [hide_upd]
      exact Ex.trans (hide_ex (Ex.new hz)) e
    · repeat rw [hid_upd List.mem_cons_self]
      exact hq
    · repeat rw [hid_upd List.mem_cons_self]
      exact ha

abbrev sDeepI : Stmt := inClass (top 15) 0
theorem scDeepI : SupScope ["self", "most", "calls", "levels"] ["self", "most", "calls", "levels"] (defScope sDeepI) := ⟨rfl, rfl, rfl, by decide +kernel, rfl, by decide +kernel, by decide +kernel, by decide +kernel, rfl, rfl⟩
theorem ok_Deep (F : F10 K A) (T : T10 mg K A) {fd : FuncData} (M : FunX P K mg A.aDeepI A.aPInit A.cDeep "Deep.__init__" sDeepI fd) (c : Cls K A.cDeep) (hno : ∀ f ∈ fieldNames, NoAttr K A.cDeep f) (n : Nat) : FnOk P w K mg base CX0 (n + 3) A.aDeepI fd ["self", "most", "calls", "levels"] (spNew K A.cDeep "deep" ["most", "calls", "levels"] n) := by
  obtain ⟨oc, od, kV, doc, pm, an, cda, ct, osl, cc, rfl, lk, hcd, SF⟩ := M
  have F2 := ok_pinit (P := P) (w := w) (mg := mg) (base := base) F T n
  refine fn_super (k := n + 2) (rest := (defBody sDeepI).tail) rfl lk hcd scDeepI SF.cell rfl rfl (by decide) (fun vs H Q E h => ?_) F2 (fun _ => rfl) (fun _ => rfl) (fun _ => rfl) (fun _ => rfl) fun Ar outer s H vs Q E hr h => ?_
  · obtain ⟨x, dx, vs', ds, S, rfl, hl, _⟩ := h
    simpa using hl
  · obtain ⟨x, dx, vs', ds, S, rfl, hl, hx, hS, hp, hc, hn, hw, k⟩ := h
    obtain ⟨v0, v1, v2, rfl⟩ := len3 hl
    refine ⟨A.cDeep, dx, [], x, _, _, rfl, hx, SF, hr, fun _ _ _ _ _ _ _ z => False.elim z, (pa_cons pe_str (pa_cons (pv 1) (pa_cons (pv 2) (pa_cons (pv 3) pa_nil)))), pss_one (ps_asg (pe_fld (pv 0) rfl) (pg_tup rfl (pgs_cons (pg_fld (pv 0)) (pgs_cons (pg_fld (pv 0)) (pgs_cons (pg_fld (pv 0)) pgs_nil))))), fun z hz => ?_⟩
    refine ⟨_, rfl, _, rfl, _, rfl, upd_same, ?_⟩
    refine ⟨x, A.cDeep, dx, "deep", [v0, v1, v2], ds, S, rfl, by rw [upd_ne (ne_of_none hx hz)]; exact hx, c, hno, hS.up (Ex.new hz), DpAll.ext (hid_ex (Ex.new hz)) hp, hc, hn, hw, fun q H2 e h1 h2 => ?_⟩
    obtain ⟨us, hq, ha⟩ : ∃ us, SqT K (hid (x :: S) H2) q us ∧ DpAll K (hid (x :: S) H2) us (tupdAll ds) := by cases h2 with | tup g1 g2 => exact ⟨_, g1, g2⟩
    have hl2 : us.length = 3 := by
      have e1 := DpAll.length ha
      have e2 := DpAll.length hp
      rw [tupdAll_map, List.length_map] at e1
      simp at e2
      omega
    obtain ⟨u0, u1, u2, rfl⟩ := len3 hl2
    refine ⟨_, rfl, x, A.cDeep, dx, _, _, rfl, h1, c, hno _ (by decide), rfl, ?_⟩
    refine ⟨q, _, rfl, SqT.ext hq (hid_out _), rfl, ?_⟩
    refine ⟨u0, [u1, u2], rfl, _, rfl, x, _, dx, _, rfl, h1, c, hno _ (by decide), (by show 2 < 1000; decide), ?_⟩
    refine ⟨u1, [u2], rfl, _, rfl, x, _, dx, _, rfl, upd_same, c, hno _ (by decide), (by show 3 < 1000; decide), ?_⟩
    refine ⟨u2, [], rfl, _, rfl, x, _, dx, _, rfl, upd_same, c, hno _ (by decide), (by show 4 < 1000; decide), ?_⟩
    refine ⟨rfl, ?_⟩
    refine k q [u0, u1, u2] _ ?_ rfl upd_same ?_ ?_
    · repeat rw [hide_upd]
      exact Ex.trans (hide_ex (Ex.new hz)) e
    · repeat rw [hid_upd List.mem_cons_self]
      exact hq
    · repeat rw [hid_upd List.mem_cons_self]
      exact ha

abbrev sBottomlessI : Stmt := inClass (top 16) 0
theorem scBottomlessI : SupScope ["self", "calls", "again"] ["self", "calls", "again"] (defScope sBottomlessI) := ⟨rfl, rfl, rfl, by decide +kernel, rfl, by decide +kernel, by decide +kernel, by decide +kernel, rfl, rfl⟩
theorem ok_Bottomless (F : F10 K A) (T : T10 mg K A) {fd : FuncData} (M : FunX P K mg A.aBottomlessI A.aPInit A.cBottomless "Bottomless.__init__" sBottomlessI fd) (c : Cls K A.cBottomless) (hno : ∀ f ∈ fieldNames, NoAttr K A.cBottomless f) (n : Nat) : FnOk P w K mg base CX0 (n + 3) A.aBottomlessI fd ["self", "calls", "again"] (spNew K A.cBottomless "bottomless" ["calls", "again"] n) := by
  obtain ⟨oc, od, kV, doc, pm, an, cda, ct, osl, cc, rfl, lk, hcd, SF⟩ := M
  have F2 := ok_pinit (P := P) (w := w) (mg := mg) (base := base) F T n
  refine fn_super (k := n + 2) (rest := (defBody sBottomlessI).tail) rfl lk hcd scBottomlessI SF.cell rfl rfl (by decide) (fun vs H Q E h => ?_) F2 (fun _ => rfl) (fun _ => rfl) (fun _ => rfl) (fun _ => rfl) fun Ar outer s H vs Q E hr h => ?_
  · obtain ⟨x, dx, vs', ds, S, rfl, hl, _⟩ := h
    simpa using hl
  · obtain ⟨x, dx, vs', ds, S, rfl, hl, hx, hS, hp, hc, hn, hw, k⟩ := h
    obtain ⟨v0, v1, rfl⟩ := len2 hl
    refine ⟨A.cBottomless, dx, [], x, _, _, rfl, hx, SF, hr, fun _ _ _ _ _ _ _ z => False.elim z, (pa_cons pe_str (pa_cons (pv 1) (pa_cons (pv 2) pa_nil))), pss_one (ps_asg (pe_fld (pv 0) rfl) (pg_tup rfl (pgs_cons (pg_fld (pv 0)) (pgs_cons (pg_fld (pv 0)) pgs_nil)))), fun z hz => ?_⟩
    refine ⟨_, rfl, _, rfl, upd_same, ?_⟩
    refine ⟨x, A.cBottomless, dx, "bottomless", [v0, v1], ds, S, rfl, by rw [upd_ne (ne_of_none hx hz)]; exact hx, c, hno, hS.up (Ex.new hz), DpAll.ext (hid_ex (Ex.new hz)) hp, hc, hn, hw, fun q H2 e h1 h2 => ?_⟩
    obtain ⟨us, hq, ha⟩ : ∃ us, SqT K (hid (x :: S) H2) q us ∧ DpAll K (hid (x :: S) H2) us (tupdAll ds) := by cases h2 with | tup g1 g2 => exact ⟨_, g1, g2⟩
    have hl2 : us.length = 2 := by
      have e1 := DpAll.length ha
      have e2 := DpAll.length hp
      rw [tupdAll_map, List.length_map] at e1
      simp at e2
      omega
    obtain ⟨u0, u1, rfl⟩ := len2 hl2
    refine ⟨_, rfl, x, A.cBottomless, dx, _, _, rfl, h1, c, hno _ (by decide), rfl, ?_⟩
    refine ⟨q, _, rfl, SqT.ext hq (hid_out _), rfl, ?_⟩
    refine ⟨u0, [u1], rfl, _, rfl, x, _, dx, _, rfl, h1, c, hno _ (by decide), (by show 2 < 1000; decide), ?_⟩
    refine ⟨u1, [], rfl, _, rfl, x, _, dx, _, rfl, upd_same, c, hno _ (by decide), (by show 3 < 1000; decide), ?_⟩
    refine ⟨rfl, ?_⟩
    refine k q [u0, u1] _ ?_ rfl upd_same ?_ ?_
    · repeat rw [hide_upd]
      exact Ex.trans (hide_ex (Ex.new hz)) e
    · repeat rw [hid_upd List.mem_cons_self]
      exact hq
    · repeat rw [hid_upd List.mem_cons_self]
      exact ha

abbrev sEndsI : Stmt := inClass (top 18) 0
theorem scEndsI : SupScope ["self", "row"] ["self", "row"] (defScope sEndsI) := ⟨rfl, rfl, rfl, by decide +kernel, rfl, by decide +kernel, by decide +kernel, by decide +kernel, rfl, rfl⟩
theorem ok_Ends (F : F10 K A) (T : T10 mg K A) {fd : FuncData} (M : FunX P K mg A.aEndsI A.aPInit A.cEnds "Ends.__init__" sEndsI fd) (c : Cls K A.cEnds) (hno : ∀ f ∈ fieldNames, NoAttr K A.cEnds f) (n : Nat) : FnOk P w K mg base CX0 (n + 3) A.aEndsI fd ["self", "row"] (spNew K A.cEnds "ends" ["row"] n) := by
  obtain ⟨oc, od, kV, doc, pm, an, cda, ct, osl, cc, rfl, lk, hcd, SF⟩ := M
  have F2 := ok_pinit (P := P) (w := w) (mg := mg) (base := base) F T n
  refine fn_super (k := n + 2) (rest := (defBody sEndsI).tail) rfl lk hcd scEndsI SF.cell rfl rfl (by decide) (fun vs H Q E h => ?_) F2 (fun _ => rfl) (fun _ => rfl) (fun _ => rfl) (fun _ => rfl) fun Ar outer s H vs Q E hr h => ?_
  · obtain ⟨x, dx, vs', ds, S, rfl, hl, _⟩ := h
    simpa using hl
  · obtain ⟨x, dx, vs', ds, S, rfl, hl, hx, hS, hp, hc, hn, hw, k⟩ := h
    obtain ⟨v0, rfl⟩ := len1 hl
    refine ⟨A.cEnds, dx, [], x, _, _, rfl, hx, SF, hr, fun _ _ _ _ _ _ _ z => False.elim z, (pa_cons pe_str (pa_cons (pv 1) pa_nil)), pss_one (ps_asg (pe_fld (pv 0) rfl) (pg_tup rfl (pgs_cons (pg_fld (pv 0)) pgs_nil))), fun z hz => ?_⟩
    refine ⟨_, rfl, upd_same, ?_⟩
    refine ⟨x, A.cEnds, dx, "ends", [v0], ds, S, rfl, by rw [upd_ne (ne_of_none hx hz)]; exact hx, c, hno, hS.up (Ex.new hz), DpAll.ext (hid_ex (Ex.new hz)) hp, hc, hn, hw, fun q H2 e h1 h2 => ?_⟩
    obtain ⟨us, hq, ha⟩ : ∃ us, SqT K (hid (x :: S) H2) q us ∧ DpAll K (hid (x :: S) H2) us (tupdAll ds) := by cases h2 with | tup g1 g2 => exact ⟨_, g1, g2⟩
    have hl2 : us.length = 1 := by
      have e1 := DpAll.length ha
      have e2 := DpAll.length hp
      rw [tupdAll_map, List.length_map] at e1
      simp at e2
      omega
    obtain ⟨u0, rfl⟩ := len1 hl2
    refine ⟨_, rfl, x, A.cEnds, dx, _, _, rfl, h1, c, hno _ (by decide), rfl, ?_⟩
    refine ⟨q, _, rfl, SqT.ext hq (hid_out _), rfl, ?_⟩
    refine ⟨u0, [], rfl, _, rfl, x, _, dx, _, rfl, h1, c, hno _ (by decide), (by show 2 < 1000; decide), ?_⟩
    refine ⟨rfl, ?_⟩
    refine k q [u0] _ ?_ rfl upd_same ?_ ?_
    · repeat rw [hide_upd]
      exact Ex.trans (hide_ex (Ex.new hz)) e
    · repeat rw [hid_upd List.mem_cons_self]
      exact hq
    · repeat rw [hid_upd List.mem_cons_self]
      exact ha

abbrev sComesI : Stmt := inClass (top 19) 0
theorem scComesI : SupScope ["self", "row"] ["self", "row"] (defScope sComesI) := ⟨rfl, rfl, rfl, by decide +kernel, rfl, by decide +kernel, by decide +kernel, by decide +kernel, rfl, rfl⟩
theorem ok_Comes (F : F10 K A) (T : T10 mg K A) {fd : FuncData} (M : FunX P K mg A.aComesI A.aPInit A.cComes "Comes.__init__" sComesI fd) (c : Cls K A.cComes) (hno : ∀ f ∈ fieldNames, NoAttr K A.cComes f) (n : Nat) : FnOk P w K mg base CX0 (n + 3) A.aComesI fd ["self", "row"] (spNew K A.cComes "comes" ["row"] n) := by
  obtain ⟨oc, od, kV, doc, pm, an, cda, ct, osl, cc, rfl, lk, hcd, SF⟩ := M
  have F2 := ok_pinit (P := P) (w := w) (mg := mg) (base := base) F T n
  refine fn_super (k := n + 2) (rest := (defBody sComesI).tail) rfl lk hcd scComesI SF.cell rfl rfl (by decide) (fun vs H Q E h => ?_) F2 (fun _ => rfl) (fun _ => rfl) (fun _ => rfl) (fun _ => rfl) fun Ar outer s H vs Q E hr h => ?_
  · obtain ⟨x, dx, vs', ds, S, rfl, hl, _⟩ := h
    simpa using hl
  · obtain ⟨x, dx, vs', ds, S, rfl, hl, hx, hS, hp, hc, hn, hw, k⟩ := h
    obtain ⟨v0, rfl⟩ := len1 hl
    refine ⟨A.cComes, dx, [], x, _, _, rfl, hx, SF, hr, fun _ _ _ _ _ _ _ z => False.elim z, (pa_cons pe_str (pa_cons (pv 1) pa_nil)), pss_one (ps_asg (pe_fld (pv 0) rfl) (pg_tup rfl (pgs_cons (pg_fld (pv 0)) pgs_nil))), fun z hz => ?_⟩
    refine ⟨_, rfl, upd_same, ?_⟩
    refine ⟨x, A.cComes, dx, "comes", [v0], ds, S, rfl, by rw [upd_ne (ne_of_none hx hz)]; exact hx, c, hno, hS.up (Ex.new hz), DpAll.ext (hid_ex (Ex.new hz)) hp, hc, hn, hw, fun q H2 e h1 h2 => ?_⟩
    obtain ⟨us, hq, ha⟩ : ∃ us, SqT K (hid (x :: S) H2) q us ∧ DpAll K (hid (x :: S) H2) us (tupdAll ds) := by cases h2 with | tup g1 g2 => exact ⟨_, g1, g2⟩
    have hl2 : us.length = 1 := by
      have e1 := DpAll.length ha
      have e2 := DpAll.length hp
      rw [tupdAll_map, List.length_map] at e1
      simp at e2
      omega
    obtain ⟨u0, rfl⟩ := len1 hl2
    refine ⟨_, rfl, x, A.cComes, dx, _, _, rfl, h1, c, hno _ (by decide), rfl, ?_⟩
    refine ⟨q, _, rfl, SqT.ext hq (hid_out _), rfl, ?_⟩
    refine ⟨u0, [], rfl, _, rfl, x, _, dx, _, rfl, h1, c, hno _ (by decide), (by show 2 < 1000; decide), ?_⟩
    refine ⟨rfl, ?_⟩
    refine k q [u0] _ ?_ rfl upd_same ?_ ?_
    · repeat rw [hide_upd]
      exact Ex.trans (hide_ex (Ex.new hz)) e
    · repeat rw [hid_upd List.mem_cons_self]
      exact hq
    · repeat rw [hid_upd List.mem_cons_self]
      exact ha

abbrev sNeverI : Stmt := inClass (top 20) 0
theorem scNeverI : SupScope ["self", "levels"] ["self", "levels"] (defScope sNeverI) := ⟨rfl, rfl, rfl, by decide +kernel, rfl, by decide +kernel, by decide +kernel, by decide +kernel, rfl, rfl⟩
theorem ok_Never (F : F10 K A) (T : T10 mg K A) {fd : FuncData} (M : FunX P K mg A.aNeverI A.aPInit A.cNever "Never.__init__" sNeverI fd) (c : Cls K A.cNever) (hno : ∀ f ∈ fieldNames, NoAttr K A.cNever f) (n : Nat) : FnOk P w K mg base CX0 (n + 3) A.aNeverI fd ["self", "levels"] (spNew K A.cNever "never" ["levels"] n) := by
  obtain ⟨oc, od, kV, doc, pm, an, cda, ct, osl, cc, rfl, lk, hcd, SF⟩ := M
  have F2 := ok_pinit (P := P) (w := w) (mg := mg) (base := base) F T n
  refine fn_super (k := n + 2) (rest := (defBody sNeverI).tail) rfl lk hcd scNeverI SF.cell rfl rfl (by decide) (fun vs H Q E h => ?_) F2 (fun _ => rfl) (fun _ => rfl) (fun _ => rfl) (fun _ => rfl) fun Ar outer s H vs Q E hr h => ?_
  · obtain ⟨x, dx, vs', ds, S, rfl, hl, _⟩ := h
    simpa using hl
  · obtain ⟨x, dx, vs', ds, S, rfl, hl, hx, hS, hp, hc, hn, hw, k⟩ := h
    obtain ⟨v0, rfl⟩ := len1 hl
    refine ⟨A.cNever, dx, [], x, _, _, rfl, hx, SF, hr, fun _ _ _ _ _ _ _ z => False.elim z, (pa_cons pe_str (pa_cons (pv 1) pa_nil)), pss_one (ps_asg (pe_fld (pv 0) rfl) (pg_tup rfl (pgs_cons (pg_fld (pv 0)) pgs_nil))), fun z hz => ?_⟩
    refine ⟨_, rfl, upd_same, ?_⟩
    refine ⟨x, A.cNever, dx, "never", [v0], ds, S, rfl, by rw [upd_ne (ne_of_none hx hz)]; exact hx, c, hno, hS.up (Ex.new hz), DpAll.ext (hid_ex (Ex.new hz)) hp, hc, hn, hw, fun q H2 e h1 h2 => ?_⟩
    obtain ⟨us, hq, ha⟩ : ∃ us, SqT K (hid (x :: S) H2) q us ∧ DpAll K (hid (x :: S) H2) us (tupdAll ds) := by cases h2 with | tup g1 g2 => exact ⟨_, g1, g2⟩
    have hl2 : us.length = 1 := by
      have e1 := DpAll.length ha
      have e2 := DpAll.length hp
      rw [tupdAll_map, List.length_map] at e1
      simp at e2
      omega
    obtain ⟨u0, rfl⟩ := len1 hl2
    refine ⟨_, rfl, x, A.cNever, dx, _, _, rfl, h1, c, hno _ (by decide), rfl, ?_⟩
    refine ⟨q, _, rfl, SqT.ext hq (hid_out _), rfl, ?_⟩
    refine ⟨u0, [], rfl, _, rfl, x, _, dx, _, rfl, h1, c, hno _ (by decide), (by show 2 < 1000; decide), ?_⟩
    refine ⟨rfl, ?_⟩
    refine k q [u0] _ ?_ rfl upd_same ?_ ?_
    · repeat rw [hide_upd]
      exact Ex.trans (hide_ex (Ex.new hz)) e
    · repeat rw [hid_upd List.mem_cons_self]
      exact hq
    · repeat rw [hid_upd List.mem_cons_self]
      exact ha

abbrev sSoundI : Stmt := inClass (top 22) 0
theorem scSoundI : SupScope ["self", "levels"] ["self", "levels"] (defScope sSoundI) := ⟨rfl, rfl, rfl, by decide +kernel, rfl, by decide +kernel, by decide +kernel, by decide +kernel, rfl, rfl⟩
theorem ok_Sound (F : F10 K A) (T : T10 mg K A) {fd : FuncData} (M : FunX P K mg A.aSoundI A.aPInit A.cSound "Sound.__init__" sSoundI fd) (c : Cls K A.cSound) (hno : ∀ f ∈ fieldNames, NoAttr K A.cSound f) (n : Nat) : FnOk P w K mg base CX0 (n + 3) A.aSoundI fd ["self", "levels"] (spNew K A.cSound "sound" ["levels"] n) := by
  obtain ⟨oc, od, kV, doc, pm, an, cda, ct, osl, cc, rfl, lk, hcd, SF⟩ := M
  have F2 := ok_pinit (P := P) (w := w) (mg := mg) (base := base) F T n
  refine fn_super (k := n + 2) (rest := (defBody sSoundI).tail) rfl lk hcd scSoundI SF.cell rfl rfl (by decide) (fun vs H Q E h => ?_) F2 (fun _ => rfl) (fun _ => rfl) (fun _ => rfl) (fun _ => rfl) fun Ar outer s H vs Q E hr h => ?_
  · obtain ⟨x, dx, vs', ds, S, rfl, hl, _⟩ := h
    simpa using hl
  · obtain ⟨x, dx, vs', ds, S, rfl, hl, hx, hS, hp, hc, hn, hw, k⟩ := h
    obtain ⟨v0, rfl⟩ := len1 hl
    refine ⟨A.cSound, dx, [], x, _, _, rfl, hx, SF, hr, fun _ _ _ _ _ _ _ z => False.elim z, (pa_cons pe_str (pa_cons (pv 1) pa_nil)), pss_one (ps_asg (pe_fld (pv 0) rfl) (pg_tup rfl (pgs_cons (pg_fld (pv 0)) pgs_nil))), fun z hz => ?_⟩
    refine ⟨_, rfl, upd_same, ?_⟩
    refine ⟨x, A.cSound, dx, "sound", [v0], ds, S, rfl, by rw [upd_ne (ne_of_none hx hz)]; exact hx, c, hno, hS.up (Ex.new hz), DpAll.ext (hid_ex (Ex.new hz)) hp, hc, hn, hw, fun q H2 e h1 h2 => ?_⟩
    obtain ⟨us, hq, ha⟩ : ∃ us, SqT K (hid (x :: S) H2) q us ∧ DpAll K (hid (x :: S) H2) us (tupdAll ds) := by cases h2 with | tup g1 g2 => exact ⟨_, g1, g2⟩
    have hl2 : us.length = 1 := by
      have e1 := DpAll.length ha
      have e2 := DpAll.length hp
      rw [tupdAll_map, List.length_map] at e1
      simp at e2
      omega
    obtain ⟨u0, rfl⟩ := len1 hl2
    refine ⟨_, rfl, x, A.cSound, dx, _, _, rfl, h1, c, hno _ (by decide), rfl, ?_⟩
    refine ⟨q, _, rfl, SqT.ext hq (hid_out _), rfl, ?_⟩
    refine ⟨u0, [], rfl, _, rfl, x, _, dx, _, rfl, h1, c, hno _ (by decide), (by show 2 < 1000; decide), ?_⟩
    refine ⟨rfl, ?_⟩
    refine k q [u0] _ ?_ rfl upd_same ?_ ?_
    · repeat rw [hide_upd]
      exact Ex.trans (hide_ex (Ex.new hz)) e
    · repeat rw [hid_upd List.mem_cons_self]
      exact hq
    · repeat rw [hid_upd List.mem_cons_self]
      exact ha

abbrev sLosesI : Stmt := inClass (top 23) 0
theorem scLosesI : SupScope ["self", "row"] ["self", "row"] (defScope sLosesI) := ⟨rfl, rfl, rfl, by decide +kernel, rfl, by decide +kernel, by decide +kernel, by decide +kernel, rfl, rfl⟩
theorem ok_Loses (F : F10 K A) (T : T10 mg K A) {fd : FuncData} (M : FunX P K mg A.aLosesI A.aPInit A.cLoses "Loses.__init__" sLosesI fd) (c : Cls K A.cLoses) (hno : ∀ f ∈ fieldNames, NoAttr K A.cLoses f) (n : Nat) : FnOk P w K mg base CX0 (n + 3) A.aLosesI fd ["self", "row"] (spNew K A.cLoses "loses" ["row"] n) := by
  obtain ⟨oc, od, kV, doc, pm, an, cda, ct, osl, cc, rfl, lk, hcd, SF⟩ := M
  have F2 := ok_pinit (P := P) (w := w) (mg := mg) (base := base) F T n
  refine fn_super (k := n + 2) (rest := (defBody sLosesI).tail) rfl lk hcd scLosesI SF.cell rfl rfl (by decide) (fun vs H Q E h => ?_) F2 (fun _ => rfl) (fun _ => rfl) (fun _ => rfl) (fun _ => rfl) fun Ar outer s H vs Q E hr h => ?_
  · obtain ⟨x, dx, vs', ds, S, rfl, hl, _⟩ := h
    simpa using hl
  · obtain ⟨x, dx, vs', ds, S, rfl, hl, hx, hS, hp, hc, hn, hw, k⟩ := h
    obtain ⟨v0, rfl⟩ := len1 hl
    refine ⟨A.cLoses, dx, [], x, _, _, rfl, hx, SF, hr, fun _ _ _ _ _ _ _ z => False.elim z, (pa_cons pe_str (pa_cons (pv 1) pa_nil)), pss_one (ps_asg (pe_fld (pv 0) rfl) (pg_tup rfl (pgs_cons (pg_fld (pv 0)) pgs_nil))), fun z hz => ?_⟩
    refine ⟨_, rfl, upd_same, ?_⟩
    refine ⟨x, A.cLoses, dx, "loses", [v0], ds, S, rfl, by rw [upd_ne (ne_of_none hx hz)]; exact hx, c, hno, hS.up (Ex.new hz), DpAll.ext (hid_ex (Ex.new hz)) hp, hc, hn, hw, fun q H2 e h1 h2 => ?_⟩
    obtain ⟨us, hq, ha⟩ : ∃ us, SqT K (hid (x :: S) H2) q us ∧ DpAll K (hid (x :: S) H2) us (tupdAll ds) := by cases h2 with | tup g1 g2 => exact ⟨_, g1, g2⟩
    have hl2 : us.length = 1 := by
      have e1 := DpAll.length ha
      have e2 := DpAll.length hp
      rw [tupdAll_map, List.length_map] at e1
      simp at e2
      omega
    obtain ⟨u0, rfl⟩ := len1 hl2
    refine ⟨_, rfl, x, A.cLoses, dx, _, _, rfl, h1, c, hno _ (by decide), rfl, ?_⟩
    refine ⟨q, _, rfl, SqT.ext hq (hid_out _), rfl, ?_⟩
    refine ⟨u0, [], rfl, _, rfl, x, _, dx, _, rfl, h1, c, hno _ (by decide), (by show 2 < 1000; decide), ?_⟩
    refine ⟨rfl, ?_⟩
    refine k q [u0] _ ?_ rfl upd_same ?_ ?_
    · repeat rw [hide_upd]
      exact Ex.trans (hide_ex (Ex.new hz)) e
    · repeat rw [hid_upd List.mem_cons_self]
      exact hq
    · repeat rw [hid_upd List.mem_cons_self]
      exact ha

abbrev sOutsI : Stmt := inClass (top 24) 0
theorem scOutsI : SupScope ["self", "row"] ["self", "row"] (defScope sOutsI) := ⟨rfl, rfl, rfl, by decide +kernel, rfl, by decide +kernel, by decide +kernel, by decide +kernel, rfl, rfl⟩
theorem ok_Outs (F : F10 K A) (T : T10 mg K A) {fd : FuncData} (M : FunX P K mg A.aOutsI A.aPInit A.cOuts "Outs.__init__" sOutsI fd) (c : Cls K A.cOuts) (hno : ∀ f ∈ fieldNames, NoAttr K A.cOuts f) (n : Nat) : FnOk P w K mg base CX0 (n + 3) A.aOutsI fd ["self", "row"] (spNew K A.cOuts "outs" ["row"] n) := by
  obtain ⟨oc, od, kV, doc, pm, an, cda, ct, osl, cc, rfl, lk, hcd, SF⟩ := M
  have F2 := ok_pinit (P := P) (w := w) (mg := mg) (base := base) F T n
  refine fn_super (k := n + 2) (rest := (defBody sOutsI).tail) rfl lk hcd scOutsI SF.cell rfl rfl (by decide) (fun vs H Q E h => ?_) F2 (fun _ => rfl) (fun _ => rfl) (fun _ => rfl) (fun _ => rfl) fun Ar outer s H vs Q E hr h => ?_
  · obtain ⟨x, dx, vs', ds, S, rfl, hl, _⟩ := h
    simpa using hl
  · obtain ⟨x, dx, vs', ds, S, rfl, hl, hx, hS, hp, hc, hn, hw, k⟩ := h
    obtain ⟨v0, rfl⟩ := len1 hl
    refine ⟨A.cOuts, dx, [], x, _, _, rfl, hx, SF, hr, fun _ _ _ _ _ _ _ z => False.elim z, (pa_cons pe_str (pa_cons (pv 1) pa_nil)), pss_one (ps_asg (pe_fld (pv 0) rfl) (pg_tup rfl (pgs_cons (pg_fld (pv 0)) pgs_nil))), fun z hz => ?_⟩
    refine ⟨_, rfl, upd_same, ?_⟩
    refine ⟨x, A.cOuts, dx, "outs", [v0], ds, S, rfl, by rw [upd_ne (ne_of_none hx hz)]; exact hx, c, hno, hS.up (Ex.new hz), DpAll.ext (hid_ex (Ex.new hz)) hp, hc, hn, hw, fun q H2 e h1 h2 => ?_⟩
    obtain ⟨us, hq, ha⟩ : ∃ us, SqT K (hid (x :: S) H2) q us ∧ DpAll K (hid (x :: S) H2) us (tupdAll ds) := by cases h2 with | tup g1 g2 => exact ⟨_, g1, g2⟩
    have hl2 : us.length = 1 := by
      have e1 := DpAll.length ha
      have e2 := DpAll.length hp
      rw [tupdAll_map, List.length_map] at e1
      simp at e2
      omega
    obtain ⟨u0, rfl⟩ := len1 hl2
    refine ⟨_, rfl, x, A.cOuts, dx, _, _, rfl, h1, c, hno _ (by decide), rfl, ?_⟩
    refine ⟨q, _, rfl, SqT.ext hq (hid_out _), rfl, ?_⟩
    refine ⟨u0, [], rfl, _, rfl, x, _, dx, _, rfl, h1, c, hno _ (by decide), (by show 2 < 1000; decide), ?_⟩
    refine ⟨rfl, ?_⟩
    refine k q [u0] _ ?_ rfl upd_same ?_ ?_
    · repeat rw [hide_upd]
      exact Ex.trans (hide_ex (Ex.new hz)) e
    · repeat rw [hid_upd List.mem_cons_self]
      exact hq
    · repeat rw [hid_upd List.mem_cons_self]
      exact ha

end
/-! ### what draws -/
/-- the pen at p: the cells, the index of the next one, the rest of a great one; b more draws can be made -/
def PenOk (H : Hp) (p : Addr) (b : Nat) : Prop := ∃ (c : Addr) (ns : List Int) (lap g : Int), H p = some (.lst [.ref c, .int lap, .int g]) ∧ H c = some (.lst (ns.map V.int)) ∧ c ≠ p ∧ ns.length ≤ 63 ∧ 0 ≤ lap ∧ lap + b ≤ 1000000 ∧ 0 ≤ g
theorem PenOk.less {H : Hp} {p : Addr} {b b' : Nat} (h : PenOk H p b) (l : b' ≤ b) : PenOk H p b' := by
  obtain ⟨c, ns, lap, g, h1, h2, h3, h4, h5, h6, h7⟩ := h
  exact ⟨c, ns, lap, g, h1, h2, h3, h4, h5, by omega, h7⟩
theorem PenOk.ext {H H' : Hp} {p : Addr} {b : Nat} (h : PenOk H p b) (e : Same H H') : PenOk H' p b := by
  obtain ⟨c, ns, lap, g, h1, h2, h3⟩ := h
  exact ⟨c, ns, lap, g, e _ _ h1, e _ _ h2, h3⟩
/-- all but the pen is as it was, and more may be there -/
structure SameP (p : Addr) (H H' : Hp) : Prop where
  ob : ∀ b o, b ≠ p → H b = some o → H' b = some o
  hd : ∀ r xs, H p = some (.lst (r :: xs)) → ∃ ys, H' p = some (.lst (r :: ys))
theorem SameP.refl (p : Addr) (H : Hp) : SameP p H H := ⟨fun _ _ _ h => h, fun _ xs h => ⟨xs, h⟩⟩
theorem SameP.upd {p : Addr} {r : V} {xs ys : List V} {H H' : Hp} (hp : H p = some (.lst (r :: xs))) (h : SameP p H H') : SameP p H (upd H' p (.lst (r :: ys))) := ⟨fun b u n e => by
  rw [upd_ne n]; exact h.ob b u n e, fun r' xs' e => by
  rw [hp] at e
  cases e
  exact ⟨ys, upd_same⟩⟩
theorem SameP.new {p q : Addr} {o : HO} {H H' : Hp} (h : SameP p H H') (hq : H' q = none) : SameP p H (L2.upd H' q o) := ⟨fun b u n e => by
  have e1 := h.ob b u n e
  rw [upd_ne (ne_of_none e1 hq)]; exact e1, fun r xs e => by
  obtain ⟨ys, e1⟩ := h.hd r xs e
  exact ⟨ys, by rw [upd_ne (ne_of_none e1 hq)]; exact e1⟩⟩
theorem SameP.trans {p : Addr} {H H1 H2 : Hp} (a : SameP p H H1) (b : SameP p H1 H2) : SameP p H H2 := ⟨fun c o n h => b.ob c o n (a.ob c o n h), fun r xs e => by
  obtain ⟨ys, e1⟩ := a.hd r xs e
  exact b.hd r ys e1⟩
theorem SameP.of {p : Addr} {H H' : Hp} (h : Same H H') : SameP p H H' := ⟨fun b o _ e => h b o e, fun _ xs e => ⟨xs, h _ _ e⟩⟩
/-- a draw: any number below many -/
def spDraw : Sp := fun vs H Q _ => ∃ (p : Addr) (m : Int) (b : Nat), vs = [.ref p, .int m] ∧ 0 < m ∧ m < 1073741824 ∧ PenOk H p (b + 1) ∧
  ∀ (r : Int) (H' : Hp), 0 ≤ r → r < m → SameP p H H' → PenOk H' p b → Q (.int r) H'
section
variable {P : Program} {w : World} {K : PySem.W.Frag} {mg : Str → Option Value} {base : Heap} {A : Ad}
theorem fst3 {a b c : V} : atI [a, b, c] 0 = some a := rfl
theorem eqv_nil (ns : List Int) : PyData.eqv (.list (ns.map PyData.int)) (.list []) = decide (ns = []) := by
  cases ns with
  | nil => rfl
  | cons n r => rfl
theorem dp_ints (K : PySem.W.Frag) (H : Hp) : ∀ ns : List Int, DpAll K H (ns.map V.int) (ns.map PyData.int)
  | [] => .nil
  | n :: r => .cons (.int n) (dp_ints K H r)
theorem canLay_ints : ∀ ns : List Int, PyData.canLayAll0 (ns.map PyData.int) = true
  | [] => rfl
  | n :: r => by
    show (PyData.canLay0 (.int n) && PyData.canLayAll0 (r.map PyData.int)) = true
    rw [canLay_ints r]; rfl
theorem depth_ints : ∀ ns : List Int, PyData.depthAll (ns.map PyData.int) ≤ 1
  | [] => by simp [PyData.depthAll]
  | n :: r => by
    have := depth_ints r
    simp [PyData.depthAll, PyData.depth] at *
    omega
theorem shaped_ints (ns : List Int) : SeqAt.shaped (.list (ns.map PyData.int)) = true := by
  have h1 := canLay_ints ns
  have h2 := depth_ints ns
  simp only [SeqAt.shaped, PyData.canLay0, PyData.depth, h1, Bool.true_and]
  exact decide_eq_true (by omega)
theorem mod_lt {a m : Int} (h : 0 < m) : 0 ≤ a % m ∧ a % m < m := ⟨Int.emod_nonneg _ (by omega), Int.emod_lt_of_pos _ h⟩
theorem mix_in {x : Int} : -(2 ^ 64) < x % 2147483563 ∧ x % 2147483563 < 2 ^ 64 := by
  have := mod_lt (a := x) (m := 2147483563) (by decide)
  omega
theorem mix_bd {x lap : Int} (l0 : 0 ≤ lap) (l1 : lap ≤ 1000000) : (x % 2147483563 * (2 * lap + 19001) + 170003 * lap * lap + 104711).natAbs < 2 ^ 64 := by
  have h := mod_lt (a := x) (m := 2147483563) (by decide)
  generalize x % 2147483563 = y at *
  have pr : 0 ≤ y * (2 * lap + 19001) ∧ y * (2 * lap + 19001) ≤ 2147483563 * 2019001 := ⟨Int.mul_nonneg h.1 (by omega), Int.mul_le_mul (by omega) (by omega) (by omega) (by decide)⟩
  have hq : 0 ≤ lap * lap ∧ lap * lap ≤ 1000000 * 1000000 := ⟨Int.mul_nonneg l0 l0, Int.mul_le_mul l1 l1 l0 (by decide)⟩
  rw [show (170003 : Int) * lap * lap = 170003 * (lap * lap) from Int.mul_assoc _ _ _]
  omega
theorem ok_draw (F : F10 K A) (T : T10 mg K A) : FnOk P w K mg base CX0 1 A.aDraw F.fDraw ["pen", "many"] spDraw := by
  refine F.FDraw.ok scDraw (fun vs H Q E h => ?_) (fun cdv Ar outer s H vs Q E hr h => ?_)
  · obtain ⟨p, m, b, rfl, _⟩ := h
    rfl
  · obtain ⟨p, m, b, rfl, m0, m1, ⟨c, ns, lap, g, hp, hc, ncp, hn, l0, l1, g0⟩, k⟩ := h
    have hu := hr.units
    refine ⟨_, (pss_cons (ps_if (pt_cmpR op_gt (pe_ix ix_list (pv 0) pe_int (fun _ _ => rfl)) pe_int (nomark _)) (pss_cons (ps_set (i := 2) scDraw.nd rfl (Or.inl rfl) (pe_op op_mod (pe_callTy call_int1 (by rfl) T.b_int (by decide +kernel) (pa_cons (pe_ix ix_list (pv 0) pe_int (fun _ _ => rfl)) pa_nil)) (pv 1)))
  (pss_cons (ps_asg (pe_op op_fdiv (pe_callTy call_int1 (by rfl) T.b_int (by decide +kernel) (pa_cons (pe_ix ix_list (pv 0) pe_int (fun _ _ => rfl)) pa_nil)) (pv 1)) (pg_sub (pv 0) pe_int set_list))
  (pss_one (ps_ret (pv 2))))) pss_nil)
  (pss_cons (ps_set (i := 3) scDraw.nd rfl (Or.inl rfl) (pe_ix ix_list (pv 0) pe_int (fun _ _ => rfl)))
  (pss_cons (ps_asg (pe_op op_add (pv 3) pe_int) (pg_sub (pv 0) pe_int set_list))
  (pss_cons (ps_set (i := 4) scDraw.nd rfl (Or.inl rfl) (pe_op op_add (pe_op op_mul pe_int (pv 3)) pe_int))
  (C8.pss_cut (ps_if (pt_cmpR (op_neD hu) (pe_ix ix_list (pv 0) pe_int (fun _ _ => rfl)) (pe_lst pa_nil) (nomark _)) (pss_one (ps_set (i := 4) scDraw.nd rfl (Or.inl rfl) (pe_ix ix_list (pe_ix ix_list (pv 0) pe_int (fun _ _ => rfl)) (pe_op op_mod (pe_callTy call_int1 (by rfl) T.b_int (by decide +kernel) (pa_cons (pv 3) pa_nil)) (pe_callB call_len_seq (by rfl) T.b_len (by decide +kernel) (pa_cons (pe_ix ix_list (pv 0) pe_int (fun _ _ => rfl)) pa_nil))) (fun _ _ => rfl)))) pss_nil)
  (C8.pss_cut (ps_if (PW.pt (pw_and (pt_cmpR op_lt (pv 3) (pe_callB call_len_seq (by rfl) T.b_len (by decide +kernel) (pa_cons (pe_ix ix_list (pv 0) pe_int (fun _ _ => rfl)) pa_nil)) (nomark _)) (pw_and1 (pt_cmpR op_ge (pe_callB call_abs (by rfl) T.b_abs (by decide +kernel) (pa_cons (pv 4) pa_nil)) (pe_op op_pow pe_int pe_int) (nomark _))))) (pss_cons (ps_set (i := 5) scDraw.nd rfl (Or.inl rfl) (pe_op op_add (pe_op op_mul pe_int (pe_op op_sub (pe_callB call_abs (by rfl) T.b_abs (by decide +kernel) (pa_cons (pv 4) pa_nil)) (pe_op op_pow pe_int pe_int))) (pe_callTy call_int1 (by rfl) T.b_int (by decide +kernel) (pa_cons (pe_cmpR op_lt (pv 4) pe_int (nomark _)) pa_nil))))
  (pss_cons (ps_asg (pe_op op_fdiv (pe_callTy call_int1 (by rfl) T.b_int (by decide +kernel) (pa_cons (pv 5) pa_nil)) (pv 1)) (pg_sub (pv 0) pe_int set_list))
  (pss_one (ps_ret (pe_op op_mod (pe_callTy call_int1 (by rfl) T.b_int (by decide +kernel) (pa_cons (pv 5) pa_nil)) (pv 1)))))) pss_nil)
  (pss_cons (ps_set (i := 6) scDraw.nd rfl (Or.inl rfl) (pe_op op_mod (pe_callTy call_int1 (by rfl) T.b_int (by decide +kernel) (pa_cons (pe_op op_pow (pe_op op_add (pe_op op_add (pe_op op_mod (pe_callTy call_int1 (by rfl) T.b_int (by decide +kernel) (pa_cons (pv 4) pa_nil)) pe_int) (pe_op op_mul pe_int (pv 3))) pe_int) pe_int) pa_nil)) pe_int))
  (pss_cons (ps_set (i := 6) scDraw.nd rfl (Or.inl rfl) (pe_op op_mod (pe_callTy call_int1 (by rfl) T.b_int (by decide +kernel) (pa_cons (pe_op op_pow (pe_op op_add (pe_op op_add (pe_op op_mul (pv 6) (pe_op op_add (pe_op op_mul pe_int (pv 3)) pe_int)) (pe_op op_mul (pe_op op_mul pe_int (pv 3)) (pv 3))) pe_int) pe_int) pa_nil)) pe_int))
  (pss_one (ps_ret (pe_op op_mod (pe_callTy call_int1 (by rfl) T.b_int (by decide +kernel) (pa_cons (pe_op op_fdiv (pv 6) pe_int) pa_nil)) (pv 1)))))))))))), ?_⟩
    -- if pen[2] > 0
    refine ⟨_, rfl, p, _, 2, _, rfl, rfl, SqL.of hp, rfl, _, _, rfl, rfl, _, rfl, ?_⟩
    refine ite2 (fun hg => ?_) (fun hg => ?_)
    · refine ⟨_, rfl, p, _, 2, _, rfl, rfl, SqL.of hp, rfl, .inl ⟨_, rfl, _, rfl, _, _, rfl, rfl, m0, ?_⟩⟩
      refine ⟨_, rfl, p, _, 2, _, rfl, rfl, SqL.of hp, rfl, .inl ⟨_, rfl, _, rfl, _, _, rfl, rfl, ⟨m0, m1⟩, ?_⟩⟩
      refine ⟨_, rfl, p, _, 2, 2, rfl, rfl, hp, rfl, _, rfl, ?_⟩
      exact k _ _ (mod_lt m0).1 (mod_lt m0).2 (SameP.upd hp (SameP.refl p H)) ⟨c, ns, lap, g / m, upd_same, by rw [upd_ne ncp]; exact hc, ncp, hn, l0, by omega, Int.ediv_nonneg g0 (by omega)⟩
    · -- lap = pen[1]; pen[1] = lap + 1; cell = ..
      refine ⟨_, rfl, p, _, 1, _, rfl, rfl, SqL.of hp, rfl, ?_⟩
      refine ⟨_, rfl, _, _, rfl, rfl, _, rfl, p, _, 1, 1, rfl, rfl, hp, rfl, ?_⟩
      have hp1 : (upd H p (.lst [.ref c, .int (lap + 1), .int g])) p = some (.lst [.ref c, .int (lap + 1), .int g]) := upd_same
      have hc1 : (upd H p (.lst [.ref c, .int (lap + 1), .int g])) c = some (.lst (ns.map V.int)) := by rw [upd_ne ncp]; exact hc
      refine ⟨_, rfl, _, _, rfl, rfl, .inl ⟨by decide, by decide⟩, _, _, rfl, rfl, ?_⟩
      -- if pen[0] != []: cell = pen[0][..]
      refine ⟨fun σ' H' => ∃ cl : Int, σ' = [some (.ref p), some (.int m), none, some (.int lap), some (.int cl), none, none] ∧ SameP p H H' ∧ H' p = some (.lst [.ref c, .int (lap + 1), .int g]) ∧ H' c = some (.lst (ns.map V.int)), ?_, ?_⟩
      · refine ⟨_, rfl, p, _, 0, _, rfl, rfl, SqL.of hp1, rfl, (by show 0 ≤ sizeLine; decide), fun q hq => ?_⟩
        have npq : p ≠ q := ne_of_none hp1 hq
        have ncq : c ≠ q := ne_of_none hc1 hq
        have hp2 : ∀ o, (upd (upd H p (.lst [.ref c, .int (lap + 1), .int g])) q o) p = some (.lst [.ref c, .int (lap + 1), .int g]) := fun o => by rw [upd_ne npq]; exact hp1
        have hc2 : ∀ o, (upd (upd H p (.lst [.ref c, .int (lap + 1), .int g])) q o) c = some (.lst (ns.map V.int)) := fun o => by rw [upd_ne ncq]; exact hc1
        have sm : ∀ o, SameP p H (upd (upd H p (.lst [.ref c, .int (lap + 1), .int g])) q o) := fun o => (SameP.upd hp (SameP.refl p H)).new hq
        refine ⟨.list (ns.map PyData.int), .list [], .lst (SqL.of (hc2 _)) (dp_ints K _ ns), .lst (SqL.of upd_same) .nil, shaped_ints ns, rfl, _, rfl, ?_⟩
        rw [eqv_nil]
        by_cases e : ns = []
        · rw [decide_eq_true e]
          exact ⟨_, rfl, sm _, hp2 _, hc2 _⟩
        · rw [decide_eq_false e]
          have hl : 0 < ns.length := List.length_pos_iff.mpr e
          have hj := mod_lt (a := lap) (m := (ns.length : Int)) (by omega)
          obtain ⟨j, hj2⟩ : ∃ j : Nat, lap % (ns.length : Int) = (j : Int) := ⟨(lap % (ns.length : Int)).toNat, by omega⟩
          have hjl : j < ns.length := by omega
          have at_ : atI (ns.map V.int) (lap % (ns.length : Int)) = some (V.int ns[j]) := by
            rw [hj2]
            exact atI_nat (by rw [List.getElem?_map, List.getElem?_eq_getElem hjl]; rfl)
          refine ⟨_, rfl, p, _, 0, _, rfl, rfl, SqL.of (hp2 _), rfl, _, rfl, .inl ⟨_, rfl, _, rfl, p, _, 0, _, rfl, rfl, SqL.of (hp2 _), rfl, _, _, rfl, .inl (SqL.of (hc2 _)), _, _, rfl, rfl, ?_, ?_⟩⟩
          · rw [List.length_map]; omega
          · rw [List.length_map]
            exact ⟨c, _, _, _, rfl, rfl, SqL.of (hc2 _), at_, ⟨ns[j], rfl, sm _, hp2 _, hc2 _⟩⟩
      · rintro σ' H' ⟨cl, rfl, sm, hp3, hc3⟩
        have pen3 : PenOk H' p b := ⟨c, ns, lap + 1, g, hp3, hc3, ncp, hn, by omega, by omega, g0⟩
        refine ⟨fun σ'' H'' => σ'' = [some (.ref p), some (.int m), none, some (.int lap), some (.int cl), none, none] ∧ H'' = H', ?_, ?_⟩
        · refine ⟨_, rfl, _, rfl, p, _, 0, _, rfl, rfl, SqL.of hp3, rfl, _, _, rfl, .inl (SqL.of hc3), _, _, rfl, rfl, _, rfl, ?_⟩
          refine ite2 (fun h1 => ?_) (fun h1 => iteF ⟨rfl, rfl⟩)
          refine ⟨_, rfl, _, rfl, _, _, rfl, rfl, ⟨by decide, by decide, by decide⟩, _, _, rfl, rfl, _, rfl, ?_⟩
          refine ite2 (fun h2 => ?_) (fun h2 => ⟨rfl, rfl⟩)
          have ha : (10 : Int) ^ 18 ≤ (if cl < 0 then -cl else cl) := of_decide_eq_true h2
          refine ⟨_, rfl, _, rfl, _, _, rfl, rfl, ⟨by decide, by decide, by decide⟩, _, _, rfl, rfl, _, _, rfl, rfl, .inl ⟨by decide, by decide⟩, ?_⟩
          refine ⟨_, rfl, _, _, rfl, rfl, .inr ⟨_, rfl, _, _, rfl, rfl, ?_⟩⟩
          have hg0 : 0 ≤ 2 * ((if cl < 0 then -cl else cl) - (10 : Int) ^ 18) + (if decide (cl < 0) = true then 1 else 0) := by
            by_cases z : cl < 0
            · simp only [z, if_true, decide_true] at *; omega
            · simp only [z, if_false, decide_false, Bool.false_eq_true] at *; omega
          refine ⟨_, rfl, .inl ⟨_, rfl, _, rfl, _, _, rfl, rfl, ⟨m0, m1⟩, _, rfl, p, _, 2, 2, rfl, rfl, hp3, rfl, ?_⟩⟩
          refine ⟨_, rfl, .inl ⟨_, rfl, _, rfl, _, _, rfl, rfl, m0, ?_⟩⟩
          exact k _ _ (mod_lt m0).1 (mod_lt m0).2 (SameP.upd hp sm) ⟨c, ns, lap + 1, _, upd_same, by rw [upd_ne ncp]; exact hc3, ncp, hn, by omega, by omega, Int.ediv_nonneg hg0 (by omega)⟩
        · rintro σ'' H'' ⟨rfl, rfl⟩
          have hl1 : lap ≤ 1000000 := by omega
          have c1 := mod_lt (a := cl) (m := 2147483587) (by decide)
          have hq : 0 ≤ lap * lap ∧ lap * lap ≤ 1000000 * 1000000 := ⟨Int.mul_nonneg l0 l0, Int.mul_le_mul hl1 hl1 l0 (by decide)⟩
          have e170 : (170003 : Int) * lap * lap = 170003 * (lap * lap) := Int.mul_assoc _ _ _
          refine ⟨_, rfl, .inl ⟨_, rfl, _, _, rfl, rfl, (by show (0 : Int) < 2147483587; decide), _, rfl, _, _, rfl, rfl, .inl ⟨by decide, by decide⟩, _, _, rfl, rfl, _, _, rfl, rfl, _, _, rfl, rfl, ⟨by decide, by decide, ?_⟩, .inl ⟨_, rfl, _, _, rfl, rfl, (by show (0 : Int) < 2147483563; decide), ?_⟩⟩⟩
          · omega
          refine ⟨_, rfl, _, rfl, _, _, rfl, rfl, .inl ⟨by decide, by decide⟩, _, _, rfl, rfl, _, _, rfl, rfl, .inl mix_in, _, rfl, _, _, rfl, rfl, .inl ⟨by decide, by decide⟩, _, rfl, _, _, rfl, rfl, .inr ⟨by omega, by omega⟩, _, _, rfl, rfl, _, _, rfl, rfl, _, _, rfl, rfl, ⟨by decide, by decide, mix_bd l0 hl1⟩, ?_⟩
          refine .inl ⟨_, rfl, _, _, rfl, rfl, (by show (0 : Int) < 2147483549; decide), ?_⟩
          refine ⟨_, rfl, _, _, rfl, rfl, ⟨by decide, by decide⟩, .inl ⟨_, rfl, _, rfl, _, _, rfl, rfl, m0, ?_⟩⟩
          exact k _ _ (mod_lt m0).1 (mod_lt m0).2 sm pen3
theorem SameP.hide {p : Addr} {H H' : Hp} (h : SameP p H H') : Ex (OwnL.hide p H) (OwnL.hide p H') := fun b o e => by
  obtain ⟨n, q⟩ := hide_of e
  rw [hide_get n]
  exact h.ob b o n q
/-- a pick: any of what there is beside the pen -/
def spPick (K : PySem.W.Frag) : Sp := fun vs H Q _ => ∃ (p l : Addr) (xs : List V) (b : Nat), vs = [.ref p, .ref l] ∧ (SqL K (OwnL.hide p H) l xs ∨ SqT K (OwnL.hide p H) l xs) ∧ 0 < xs.length ∧ xs.length < 1000000 ∧ PenOk H p (b + 1) ∧
  ∀ (i : Nat) (v : V) (H' : Hp), xs[i]? = some v → SameP p H H' → PenOk H' p b → Q v H'
theorem ok_pick (F : F10 K A) (T : T10 mg K A) : FnOk P w K mg base CX0 2 A.aPick F.fPick ["pen", "some"] (spPick K) := by
  have bDraw : Binds K F.fDraw ["pen", "many"] [] := F.FDraw.binds (fun _ _ _ _ _ _ us hl => match us, hl with | [_, _], _ => rfl)
  have GDraw := ok_draw (P := P) (w := w) (mg := mg) (base := base) F T
  refine F.FPick.ok scPick (fun vs H Q E h => ?_) (fun cdv Ar outer s H vs Q E hr h => ?_)
  · obtain ⟨p, l, xs, b, rfl, _⟩ := h
    rfl
  · obtain ⟨p, l, xs, b, rfl, hl, h0, h1, hp, k⟩ := h
    have hr1 := hr
    refine ⟨_, (pss_one (ps_ret (pe_ix (ix_list.or ix_tup) (pv 1) (pe_call GDraw hr1 rfl T.gDraw T.kDraw bDraw .nil pass0 (pa_cons (pv 0) (pa_cons (pe_callB call_len_seq (by rfl) T.b_len (by decide +kernel) (pa_cons (pv 1) pa_nil)) pa_nil))) (fun _ _ => rfl)))), ?_⟩
    have hs : SqL K H l xs ∨ SqT K H l xs := hl.imp (fun h => SqL.ext h (hide_ext p H)) fun h => SqT.ext h (hide_ext p H)
    refine ⟨_, rfl, _, rfl, _, rfl, l, xs, rfl, hs, p, xs.length, b, rfl, by omega, by omega, hp, fun r H' r0 r1 sm hp' => ?_⟩
    obtain ⟨j, rfl⟩ : ∃ j : Nat, r = (j : Int) := ⟨r.toNat, by omega⟩
    have hj : j < xs.length := by omega
    have at_ : atI xs (j : Int) = some xs[j] := atI_nat (List.getElem?_eq_getElem hj)
    have fin : Q xs[j] H' := k j _ H' (List.getElem?_eq_getElem hj) sm hp'
    rcases hl with hl | hl
    · exact .inl ⟨l, xs, _, _, rfl, rfl, SqL.ext hl (Ex.trans sm.hide (hide_ext p H')), at_, fin⟩
    · exact .inr ⟨l, xs, _, _, rfl, rfl, SqT.ext hl (Ex.trans sm.hide (hide_ext p H')), at_, fin⟩
end
section
variable {P : Program} {w : World} {K : PySem.W.Frag} {mg : Str → Option Value} {base : Heap} {A : Ad}
/-! ### integers within bounds; names -/
def inB (d : PyData) (a b : Int) : Bool := match d with
  | .int i => decide (a ≤ i) && decide (i ≤ b)
  | _ => false
def spWithin (K : PySem.W.Frag) : Sp := fun vs H Q _ => ∃ v d a b, vs = [v, .int a, .int b] ∧ Dp K H v d ∧ d.canLay0 = true ∧ RetV (.bl (inB d a b)) H Q
theorem rv_isN {x : V} {H : Hp} : RV (fun (x y : V) H (Q : VK) => y = .non ∧ Q (.bl (decide (x = .non))) H) x .non H (.bl (decide (x = .non))) := fun H1 _ Q q => ⟨rfl, q H1 (Ex.refl H1)⟩
theorem ok_isWithin (F : F10 K A) (T : T10 mg K A) : FnOk P w K mg base CX0 2 A.aIsWithin F.fIsWithin ["value", "least", "most"] (spWithin K) := by
  have bIsInteger : Binds K F.fIsInteger ["value"] [] := F.FIsInteger.binds (fun _ _ _ _ _ _ us hl => match us, hl with | [_], _ => rfl)
  have GIsInteger := ok_isInteger (P := P) (w := w) (mg := mg) (base := base) F T
  refine F.FIsWithin.ok scIsWithin (fun vs H Q E h => ?_) (fun cdv Ar outer s H vs Q E hr h => ?_)
  · obtain ⟨v, d, a, b, rfl, _⟩ := h
    rfl
  · obtain ⟨v, d, a, b, rfl, hd, hc, k⟩ := h
    have hr1 := hr
    refine ⟨_, (pss_one (ps_ret (pe_and (pe_call GIsInteger hr1 rfl T.gIsInteger T.kIsInteger bIsInteger .nil pass0 (pa_cons (pv 0) pa_nil)) (pe_and (pe_or (pe_cmpR op_isN (pv 1) pe_non (nomark _)) (pe_one (pe_cmpR op_ge (pv 0) (pv 1) (nomark _)))) (pe_one (pe_or (pe_cmpR op_isN (pv 2) pe_non (nomark _)) (pe_one (pe_cmpR op_le (pv 0) (pv 2) (nomark _))))))))), ?_⟩
    by_cases hi : isIntD d = true
    · obtain ⟨i, rfl⟩ : ∃ i, d = .int i := by cases d <;> simp_all [isIntD]
      cases hd
      refine s_ret (v := .bl (inB (.int i) a b)) (ev_is (ev_andV (a := true) (b := decide (a ≤ i) && decide (i ≤ b)) (ev_call (ea_cons (ev_var rfl) ea_nil) (spv_chk (φ := isIntD) (.int i) rfl)) fun _ => ev_is (ev_andV (a := decide (a ≤ i)) (b := decide (i ≤ b)) (ev_is (ev_orV (a := false) (b := decide (a ≤ i)) (ev_op (ev_var rfl) ev_c rv_isN) fun _ => ev_op (ev_var rfl) (ev_var rfl) rv_I0) (by simp)) fun _ => ev_is (ev_orV (a := false) (b := decide (i ≤ b)) (ev_op (ev_var rfl) ev_c rv_isN) fun _ => ev_op (ev_var rfl) (ev_var rfl) rv_I0) (by simp)) rfl) (by simp [inB])) k
    · have hf : isIntD d = false := by simpa using hi
      have hb : inB d a b = false := by cases d <;> simp_all [isIntD, inB]
      refine s_ret (v := .bl (inB d a b)) (ev_is (ev_andV (a := isIntD d) (b := false) (ev_call (ea_cons (ev_var rfl) ea_nil) (spv_chk (φ := isIntD) hd hc)) fun h => absurd h hi) (by rw [hb, hf]; rfl)) k
def numB (d : PyData) (m : Int) : Bool := match d with
  | .int i => decide (0 ≤ i) && decide (i < m)
  | _ => false
def spNum (K : PySem.W.Frag) : Sp := fun vs H Q _ => ∃ v d m, vs = [v, .int m] ∧ Dp K H v d ∧ d.canLay0 = true ∧ RetV (.bl (numB d m)) H Q
theorem ok_plNum (F : F10 K A) (T : T10 mg K A) : FnOk P w K mg base CX0 1 A.aPlIsNumber F.fPlIsNumber ["value", "many"] (spNum K) := by
  refine F.FPlIsNumber.ok scPlIsNumber (fun vs H Q E h => ?_) (fun cdv Ar outer s H vs Q E hr h => ?_)
  · obtain ⟨v, d, m, rfl, _⟩ := h
    rfl
  · obtain ⟨v, d, m, rfl, hd, hc, k⟩ := h
    refine ⟨_, (pss_one (ps_ret (pe_and (pe_callB call_isi (by rfl) T.b_isinstance (by decide +kernel) (pa_cons (pv 0) (pa_cons (pe_bltn (v := .ty "int") (u := .type "int") rfl T.b_int (by decide +kernel) rfl) pa_nil))) (pe_and (pe_not (pe_callB call_isi (by rfl) T.b_isinstance (by decide +kernel) (pa_cons (pv 0) (pa_cons (pe_bltn (v := .ty "bool") (u := .type "bool") rfl T.b_bool (by decide +kernel) rfl) pa_nil)))) (pe_one (pe_chain op_le op_lt pe_int (pv 0) (pv 1))))))), ?_⟩
    by_cases hi : isIntD d = true
    · obtain ⟨i, rfl⟩ : ∃ i, d = .int i := by cases d <;> simp_all [isIntD]
      have hd' := hd
      cases hd'
      refine s_ret (v := .bl (numB (.int i) m)) (ev_is (ev_andV (a := true) (b := decide (0 ≤ i) && decide (i < m)) (ev_cb (ea_cons (ev_var rfl) (ea_cons ev_c ea_nil)) (rc_isi hd (isi_int _ hc))) fun _ => ev_is (ev_andV (a := true) (b := decide (0 ≤ i) && decide (i < m)) (ev_is (ev_notV (a := false) (ev_cb (ea_cons (ev_var rfl) (ea_cons ev_c ea_nil)) (rc_isi hd (isi_bool _ hc)))) rfl) fun _ => ev_chain ev_c (ev_var rfl) rv_I0 fun _ => ⟨ev_var rfl, rv_I0⟩) (by simp)) (by simp [numB])) k
    · have hf : isIntD d = false := by simpa using hi
      have hb : numB d m = false := by cases d <;> simp_all [isIntD, numB]
      refine s_ret (v := .bl (numB d m)) (ev_is (ev_andV (a := isBoolD d) (b := false) (ev_is (ev_cb (ea_cons (ev_var rfl) (ea_cons ev_c ea_nil)) (rc_isi hd (isi_int _ hc))) (by rw [hf]; rfl)) fun hbd => ev_is (ev_andV (a := false) (b := true) (ev_is (ev_notV (a := true) (ev_is (ev_cb (ea_cons (ev_var rfl) (ea_cons ev_c ea_nil)) (rc_isi hd (isi_bool _ hc))) (by rw [hbd]))) rfl) fun h => nomatch h) rfl) (by rw [hb]; simp)) k
/-! names -/
def letterB (c : Nat) : Bool := decide (c ∈ ("abcdefghijklmnopqrstuvwxyz" : Str).cps.toList)
def nameB (x : Str) : Bool := (decide ((1 : Int) ≤ x.length) && decide ((x.length : Int) ≤ 8)) && (List.range x.cps.size).all fun i => letterB (x.cps.getD i 0)
theorem el_lcS {σ : L2.St} {H : Hp} {x : Str} {tl te : TE} {t : TT} {j : Nat} {vs : List Nat} (f : Nat → Bool) (v : Nat → V) (h : Ev tl σ H (.str x)) (hz : x.cps.size ≤ 40000) (hw : ∀ z, wipe ((wipe σ vs).set j (some z)) vs = wipe σ vs)
    (ht : ∀ (i : Nat) c H1, Ex H H1 → x.cps[i]? = some c → EvT t ((wipe σ vs).set j (some (.str ⟨#[c]⟩))) H1 (f i)) (he : ∀ (i : Nat) c H1, Ex H H1 → x.cps[i]? = some c → f i = true → Ev te ((wipe σ vs).set j (some (.str ⟨#[c]⟩))) H1 (v i)) :
    EvL (tLc (iStr tl) (gName j) t te vs) σ H (Evl.given x.cps.size f v) := fun H0 e Q q => h H0 e _ fun H1 e1 => ⟨x, rfl, fun Dl hD =>
  lc_it walk_str (Cw H1 f v Dl) ⟨hD, Ex.new hD, upd_same⟩ (fun _ _ _ _ => trivial) (fun i z H' H2 hi p y => by
    obtain ⟨rfl, c, hc, rfl⟩ := y
    exact ⟨hw _, cw_turn p (by omega) (ht i c H1 (e.trans e1) hc) fun hf => he i c H1 (e.trans e1) hc hf⟩) fun H' p => q Dl H' (fresh_back e1 p.1) (e1.trans p.2.1) p.2.2⟩
theorem et_yes {σ : L2.St} {H : Hp} : EvT tYes σ H true := fun H1 _ Q q => q H1 (Ex.refl H1)
theorem ev_all {σ : L2.St} {H : Hp} {te : TE} {bs : List Bool} (h : EvL te σ H (bs.map V.bl)) : Ev (tCB (rAll K) (tCons te tNil)) σ H (.bl (bs.all id)) := fun H1 e Q q => h H1 e _ fun p H2 hp e2 h2 => ⟨p, bs, rfl, SqL.of h2, q H2 e2⟩
theorem rv_inS {c : Nat} {z : Str} {H : Hp} : RV rInS (.str ⟨#[c]⟩) (.str z) H (.bl (decide (c ∈ z.cps.toList))) := fun H1 _ Q q => ⟨c, z, rfl, rfl, q H1 (Ex.refl H1)⟩
theorem rv_notInS {c : Nat} {z : Str} {H : Hp} : RV rNotInS (.str ⟨#[c]⟩) (.str z) H (.bl (!decide (c ∈ z.cps.toList))) := fun H1 _ Q q => ⟨c, z, rfl, rfl, q H1 (Ex.refl H1)⟩
theorem given_all (n : Nat) (v : Nat → V) : Evl.given n (fun _ => true) v = (List.range n).map v := by
  unfold Evl.given
  rw [List.filter_eq_self.mpr (fun _ _ => rfl)]
def spName (K : PySem.W.Frag) : Sp := fun vs H Q _ => ∃ x : Str, vs = [.str x] ∧ x.length ≤ 40000 ∧ PyData.strOk x = true ∧ RetV (.bl (nameB x)) H Q
theorem ok_isName (F : F10 K A) (T : T10 mg K A) : FnOk P w K mg base CX0 1 A.aIsName F.fIsName ["value"] (spName K) := by
  refine F.FIsName.ok scIsName (fun vs H Q E h => ?_) (fun cdv Ar outer s H vs Q E hr h => ?_)
  · obtain ⟨x, rfl, _⟩ := h
    rfl
  · obtain ⟨x, rfl, hz, hk, k⟩ := h
    obtain ⟨tL, hLet⟩ := T.gLETTERS
    have hz2 : x.cps.size ≤ 40000 := hz
    refine ⟨_, (pss_one (ps_ret (pe_and (pe_callB call_isi (by rfl) T.b_isinstance (by decide +kernel) (pa_cons (pv 0) (pa_cons (pe_bltn (v := .ty "str") (u := .type "str") rfl T.b_str (by decide +kernel) rfl) pa_nil))) (pe_and (pe_chain op_le op_le pe_int (pe_callB call_len (by rfl) T.b_len (by decide +kernel) (pa_cons (pv 0) pa_nil)) pe_int) (pe_one (pe_callB (cr_all rfl) (by rfl) T.b_all (by decide +kernel) (pa_cons (pe_lc (own := [("letter", 1)]) rfl scIsName.nd (pi_str (pv 0)) (blkOk_by (own := [("letter", 1)]) (N := ["value", "letter"]) (sc := defScope (top 9)) (by decide +kernel)) (fun _ _ _ _ _ => (pg_name (i := 1) scIsName.nd rfl (Or.inl rfl))) (fun _ _ _ _ _ => pts_nil) (fun _ _ _ _ _ => (pe_cmpR op_inS (pv 1) (pe_glob (v := .str "abcdefghijklmnopqrstuvwxyz") rfl hLet ⟨_, rfl⟩) (by rfl)))) pa_nil))))))), ?_⟩
    have len : ∀ H1, Ex H H1 → RC (fun (xs : List V) (H : Hp) (Q : VK) => ∃ x n, xs = [x] ∧ LenV K x H n ∧ Q (.int n) H) [.str x] H1 (.int (x.length : Nat)) := fun H1 _ H2 _ Q q => ⟨.str x, x.length, rfl, ⟨sz_of (by omega), rfl⟩, q H2 (Ex.refl H2)⟩
    have all : ∀ σ : L2.St, σ = [some (.str x), none] → EvL (tLc (iStr (tVar 0)) (gName 1) tYes (tOp rInS (tVar 1) (tC (.str "abcdefghijklmnopqrstuvwxyz"))) [1]) σ H (((List.range x.cps.size).map fun i => letterB (x.cps.getD i 0)).map V.bl) := fun σ hσ => by
      subst hσ
      have q := el_lcS (σ := [some (.str x), none]) (H := H) (x := x) (tl := tVar 0) (te := tOp rInS (tVar 1) (tC (.str "abcdefghijklmnopqrstuvwxyz"))) (t := tYes) (j := 1) (vs := [1]) (fun _ => true) (fun i => .bl (letterB (x.cps.getD i 0))) (ev_var rfl) hz2 (fun z => rfl) (fun i c H1 e hc => et_yes) (fun i c H1 e hc _ => by
        have hg : x.cps.getD i 0 = c := by rw [Array.getD_eq_getD_getElem?, hc]; rfl
        rw [hg]
        exact ev_op (ev_var rfl) ev_c rv_inS)
      rw [given_all] at q
      rw [List.map_map]
      exact q
    refine s_ret (v := .bl (nameB x)) (ev_is (ev_andV (a := true) (b := nameB x) (ev_cb (ea_cons (ev_var rfl) (ea_cons ev_c ea_nil)) (rc_isi (.str x) (isi_str (.str x) hk))) fun _ => ev_is (ev_andV (a := decide ((1 : Int) ≤ x.length) && decide ((x.length : Int) ≤ 8)) (b := (List.range x.cps.size).all fun i => letterB (x.cps.getD i 0)) (ev_chain ev_c (ev_cb (ea_cons (ev_var rfl) ea_nil) (len H (Ex.refl H))) rv_I0 fun _ => ⟨ev_c, rv_I0⟩) fun _ => ev_is (ev_all (all _ rfl)) (by rw [List.all_map]; rfl)) rfl) (by simp)) k
end
section
variable {P : Program} {w : World} {K : PySem.W.Frag} {mg : Str → Option Value} {base : Heap} {A : Ad}
theorem eqv_empty {α : Type} (l : List α) (f : α → PyData) : PyData.eqv (.list (l.map f)) (.list []) = l.isEmpty := by
  cases l with
  | nil => rfl
  | cons a r => rfl
theorem filter_all (n : Nat) (g : Nat → Bool) : ((List.range n).filter fun i => !g i).isEmpty = (List.range n).all g := by
  rw [Bool.eq_iff_iff]
  simp [List.isEmpty_iff, List.filter_eq_nil_iff, List.all_eq_true]
theorem dp_strs {H : Hp} (f : Nat → Str) : ∀ l : List Nat, DpAll K H (l.map fun i => V.str (f i)) (l.map fun i => PyData.str (f i))
  | [] => .nil
  | i :: r => .cons (.str _) (dp_strs f r)
theorem canLay_strs (f : Nat → Str) (h : ∀ i, PyData.strOk (f i) = true) : ∀ l : List Nat, PyData.canLayAll0 (l.map fun i => PyData.str (f i)) = true
  | [] => rfl
  | i :: r => by
    have := canLay_strs f h r
    simp only [List.map_cons, PyData.canLayAll0, PyData.canLay0, h i, this, Bool.and_self]
theorem depth_strs (f : Nat → Str) : ∀ l : List Nat, PyData.depthAll (l.map fun i => PyData.str (f i)) = 0
  | [] => rfl
  | i :: r => by
    have := depth_strs f r
    simp only [List.map_cons, PyData.depthAll, PyData.depth, this, Nat.max_self]
theorem shaped_strs (f : Nat → Str) (h : ∀ i, PyData.strOk (f i) = true) (l : List Nat) : SeqAt.shaped (.list (l.map fun i => PyData.str (f i))) = true := by
  have h1 := canLay_strs f h l
  have h2 := depth_strs f l
  simp only [SeqAt.shaped, PyData.canLay0, PyData.depth, h1, h2, Bool.true_and]
  decide
theorem sign_ok {x : Str} (h : PyData.strOk x = true) (i : Nat) : PyData.strOk ⟨#[x.cps.getD i 0]⟩ = true := by
  have h' : ∀ (k : Nat) (hk : k < x.cps.size), x.cps[k] < 0x110000 := by simpa [PyData.strOk] using h
  show (#[x.cps.getD i 0].all fun c => decide (c < 0x110000)) = true
  have e : x.cps.getD i 0 < 0x110000 := by
    by_cases hi : i < x.cps.size
    · rw [Array.getD_eq_getD_getElem?, Array.getElem?_eq_getElem hi]
      exact h' i hi
    · rw [Array.getD_eq_getD_getElem?, Array.getElem?_eq_none (by omega)]
      decide
  generalize x.cps.getD i 0 = c at e
  simp [e]
theorem ok_plName (F : F10 K A) (T : T10 mg K A) : FnOk P w K mg base CX0 1 A.aPlIsName F.fPlIsName ["value"] (spName K) := by
  refine F.FPlIsName.ok scPlIsName (fun vs H Q E h => ?_) (fun cdv Ar outer s H vs Q E hr h => ?_)
  · obtain ⟨x, rfl, _⟩ := h
    rfl
  · obtain ⟨x, rfl, hz, hk, k⟩ := h
    have hu := hr.units
    have hz2 : x.cps.size ≤ 40000 := hz
    refine ⟨_, (pss_one (ps_ret (pe_and (pe_callB call_isi (by rfl) T.b_isinstance (by decide +kernel) (pa_cons (pv 0) (pa_cons (pe_bltn (v := .ty "str") (u := .type "str") rfl T.b_str (by decide +kernel) rfl) pa_nil))) (pe_and (pe_chain op_le op_le pe_int (pe_callB call_len (by rfl) T.b_len (by decide +kernel) (pa_cons (pv 0) pa_nil)) pe_int) (pe_one (pe_cmpR (op_eqD hu) (pe_lc (own := [("sign", 1)]) rfl scPlIsName.nd (pi_str (pv 0)) (blkOk_by (own := [("sign", 1)]) (N := ["value", "sign"]) (sc := defScope (top 30)) (by decide +kernel)) (fun _ _ _ _ _ => (pg_name (i := 1) scPlIsName.nd rfl (Or.inl rfl))) (fun _ _ _ _ _ => pts_one (pt_cmpR op_notInS (pv 1) pe_str (by rfl))) (fun _ _ _ _ _ => (pv 1))) (pe_lst pa_nil) (nomark _))))))), ?_⟩
    have len : ∀ H1, Ex H H1 → RC (fun (xs : List V) (H : Hp) (Q : VK) => ∃ x n, xs = [x] ∧ LenV K x H n ∧ Q (.int n) H) [.str x] H1 (.int (x.length : Nat)) := fun H1 _ H2 _ Q q => ⟨.str x, x.length, rfl, ⟨sz_of (by omega), rfl⟩, q H2 (Ex.refl H2)⟩
    have signs : ∀ σ : L2.St, σ = [some (.str x), none] → EvL (tLc (iStr (tVar 0)) (gName 1) (tTest (tOp rNotInS (tVar 1) (tC (.str "abcdefghijklmnopqrstuvwxyz")))) (tVar 1) [1]) σ H (((List.range x.cps.size).filter fun i => !letterB (x.cps.getD i 0)).map fun i => V.str ⟨#[x.cps.getD i 0]⟩) := fun σ hσ => by
      subst hσ
      exact el_lcS (σ := [some (.str x), none]) (H := H) (x := x) (tl := tVar 0) (te := tVar 1) (t := tTest (tOp rNotInS (tVar 1) (tC (.str "abcdefghijklmnopqrstuvwxyz")))) (j := 1) (vs := [1]) (fun i => !letterB (x.cps.getD i 0)) (fun i => .str ⟨#[x.cps.getD i 0]⟩) (ev_var rfl) hz2 (fun z => rfl) (fun i c H1 e hc => by
        have hg : x.cps.getD i 0 = c := by rw [Array.getD_eq_getD_getElem?, hc]; rfl
        rw [hg]
        exact et_test (ev_op (ev_var rfl) ev_c rv_notInS)) (fun i c H1 e hc _ => by
        have hg : x.cps.getD i 0 = c := by rw [Array.getD_eq_getD_getElem?, hc]; rfl
        rw [hg]
        exact ev_var rfl)
    refine s_ret (v := .bl (nameB x)) (ev_is (ev_andV (a := true) (b := nameB x) (ev_cb (ea_cons (ev_var rfl) (ea_cons ev_c ea_nil)) (rc_isi (.str x) (isi_str (.str x) hk))) fun _ => ev_is (ev_andV (a := decide ((1 : Int) ≤ x.length) && decide ((x.length : Int) ≤ 8)) (b := (List.range x.cps.size).all fun i => letterB (x.cps.getD i 0)) (ev_chain ev_c (ev_cb (ea_cons (ev_var rfl) ea_nil) (len H (Ex.refl H))) rv_I0 fun _ => ⟨ev_c, rv_I0⟩) fun _ =>
      ev_is (ev_opLL (signs _ rfl) (el_lst ea_nil (by decide)) fun p q H1 hp hq e => rv_eqD (d := .list _) (e := .list []) (.lst (SqL.of hp) (dp_strs (fun i => ⟨#[x.cps.getD i 0]⟩) _)) (.lst (SqL.of hq) .nil) (shaped_strs _ (sign_ok hk) _) rfl) (by rw [eqv_empty, filter_all])) rfl) (by simp)) k
/-- names in a list; other values are none -/
def namesB (xs : List Str) (m : Int) : Bool := !(decide (m < (xs.length : Int)) || !xs.all nameB) && decide (many xs.reverse = xs.length)
def spNames (K : PySem.W.Frag) : Sp := fun vs H Q _ => ∃ (v : V) (m : Int), vs = [v, .int m] ∧
  ((∃ (a : Addr) (xs : List Str), v = .ref a ∧ SqL K H a (xs.map V.str) ∧ xs.length ≤ 1000 ∧ (∀ x ∈ xs, x.length ≤ 40000 ∧ PyData.strOk x = true) ∧ RetV (.bl (namesB xs m)) H Q) ∨ (∃ (a : Addr) (xs : List Str), v = .ref a ∧ SqT K H a (xs.map V.str) ∧ (xs.all fun x => PyData.strOk x) = true ∧ m < (xs.length : Int) ∧ RetV (.bl false) H Q) ∨ ∃ x : Str, v = .str x ∧ PyData.strOk x = true ∧ RetV (.bl false) H Q)
theorem dp_texts {H : Hp} : ∀ xs : List Str, DpAll K H (xs.map V.str) (xs.map PyData.str)
  | [] => .nil
  | x :: r => .cons (.str _) (dp_texts r)
theorem canLay_texts : ∀ xs : List Str, (xs.all fun x => PyData.strOk x) = true → PyData.canLayAll0 (xs.map PyData.str) = true
  | [], _ => rfl
  | x :: r, h => by
    have h' : PyData.strOk x = true ∧ (r.all fun x => PyData.strOk x) = true := by simpa only [List.all_cons, Bool.and_eq_true] using h
    have := canLay_texts r h'.2
    simp only [List.map_cons, PyData.canLayAll0, PyData.canLay0, h'.1, this, Bool.and_self]
theorem ok_areNames (F : F10 K A) (T : T10 mg K A) : FnOk P w K mg base CX0 2 A.aAreNames F.fAreNames ["value", "most"] (spNames K) := by
  have bIsListed : Binds K F.fIsListed ["value"] [] := F.FIsListed.binds (fun _ _ _ _ _ _ us hl => match us, hl with | [_], _ => rfl)
  have GIsListed := ok_isListed (P := P) (w := w) (mg := mg) (base := base) F T
  have bIsName : Binds K F.fIsName ["value"] [] := F.FIsName.binds (fun _ _ _ _ _ _ us hl => match us, hl with | [_], _ => rfl)
  have GIsName := ok_isName (P := P) (w := w) (mg := mg) (base := base) F T
  refine F.FAreNames.ok scAreNames (fun vs H Q E h => ?_) (fun cdv Ar outer s H vs Q E hr h => ?_)
  · obtain ⟨v, m, rfl, _⟩ := h
    rfl
  · obtain ⟨v, m, rfl, h⟩ := h
    have hr1 := hr
    refine ⟨_, (pss_cons (ps_if (PW.pt (pw_or (pt_not (pt_val (pe_call GIsListed hr1 rfl T.gIsListed T.kIsListed bIsListed .nil pass0 (pa_cons (pv 0) pa_nil)))) (pw_or (pt_cmpR op_gt (pe_callB call_len_seq (by rfl) T.b_len (by decide +kernel) (pa_cons (pv 0) pa_nil)) (pv 1) (nomark _)) (pw_or1 (pt_not (pt_val (pe_callB (cr_all rfl) (by rfl) T.b_all (by decide +kernel) (pa_cons (pe_lc (own := [("name", 2)]) rfl scAreNames.nd (pi_or (pi_list (pv 0)) (pi_tup (pv 0))) (blkOk_by (own := [("name", 2)]) (N := ["value", "most", "name"]) (sc := defScope (top 10)) (by decide +kernel)) (fun _ _ _ _ _ => (pg_name (i := 2) scAreNames.nd rfl (Or.inl rfl))) (fun _ _ _ _ _ => pts_nil) (fun _ _ _ _ _ => (pe_call GIsName hr1 rfl T.gIsName T.kIsName bIsName .nil pass0 (pa_cons (pv 2) pa_nil)))) pa_nil)))))))) (pss_one (ps_ret pe_bl)) pss_nil)
  (pss_one (ps_ret (pe_cmpR op_eq (pe_lenSetS rfl (by rfl) T.b_len (by rfl) T.b_set (pv 0)) (pe_callB call_len_seq (by rfl) T.b_len (by decide +kernel) (pa_cons (pv 0) pa_nil)) (nomark _))))), ?_⟩
    rcases h with ⟨a, xs, rfl, hs, hl, hx, k⟩ | ⟨a, xs, rfl, hs, hx, hm, k⟩ | ⟨x, rfl, hx, k⟩
    · have hx2 : (xs.all fun x => PyData.strOk x) = true := by
        rw [List.all_eq_true]
        exact fun x hx' => (hx x hx').2
      have hd : Dp K H (.ref a) (.list (xs.map PyData.str)) := .lst hs (dp_texts xs)
      have all : ∀ σ : L2.St, σ = [some (.ref a), some (.int m), none] → ∀ H1, Ex H H1 → EvL (tLc (iList K (tVar 0)) (gName 2) tYes (tCall (spName K) [] (fun _ _ _ => False) (tCons (tVar 2) tNil)) [2]) σ H1 ((xs.map nameB).map V.bl) := fun σ hσ H1 e1 => by
        subst hσ
        have q := el_lcL (K := K) (σ := [some (.ref a), some (.int m), none]) (H := H1) (a := a) (xs := xs.map V.str) (tl := tVar 0) (te := tCall (spName K) [] (fun _ _ _ => False) (tCons (tVar 2) tNil)) (t := tYes) (j := 2) (vs := [2]) (fun _ => true) (fun i => .bl (nameB (xs.getD i Str.empty))) (ev_var rfl) (ex_l e1 hs) (by rw [List.length_map]; omega) (fun z => rfl) (fun i c H1 e hc => et_yes) (fun i c H2 e hc _ => by
          rw [List.getElem?_map, Option.map_eq_some_iff] at hc
          obtain ⟨x, hxi, rfl⟩ := hc
          have hg : xs.getD i Str.empty = x := by rw [List.getD_eq_getElem?_getD, hxi]; rfl
          rw [hg]
          have hm := hx x (List.mem_of_getElem? hxi)
          exact ev_call (ea_cons (ev_var rfl) ea_nil) fun H3 e3 Q' q' E' => ⟨x, rfl, hm.1, hm.2, fun H4 e4 => q' H4 e4⟩)
        rw [given_all, List.length_map] at q
        have e : (xs.map nameB).map V.bl = (List.range xs.length).map fun i => V.bl (nameB (xs.getD i Str.empty)) := by
          rw [List.map_map]
          refine List.ext_getElem (by simp) fun i h1 h2 => ?_
          have hi : i < xs.length := by simpa using h1
          simp [List.getElem?_eq_getElem hi]
        rw [e]
        exact q
      have lc : ∀ H1, Ex H H1 → EvL (tLc (fun σ H R => iList K (tVar 0) σ H R ∨ iTup K (tVar 0) σ H R) (gName 2) tYes (tCall (spName K) [] (fun _ _ _ => False) (tCons (tVar 2) tNil)) [2]) (L2.start ["value", "most", "name"] [V.ref a, V.int m]) H1 ((xs.map nameB).map V.bl) := fun H1 e1 H2 e2 Q' q' => .inl (all _ rfl H1 e1 H2 e2 Q' q')
      refine q_when (b := decide (m < (xs.length : Int)) || !xs.all nameB) (et_is (et_or (a := false) (b := decide (m < (xs.length : Int)) || !xs.all nameB) (et_is (et_not (et_B (ev_call (ea_cons (ev_var rfl) ea_nil) (spv_chk (φ := isSeqD) hd (by simpa only [PyData.canLay0] using canLay_texts xs hx2))))) rfl) fun _ => et_or (a := decide (m < (xs.length : Int))) (b := !xs.all nameB) (et_is (et_test (ev_op (ev_cb (ea_cons (ev_var rfl) ea_nil) fun H1 e Q' q => ⟨a, _, rfl, .inl (ex_l e hs), q H1 (Ex.refl H1)⟩) (ev_var rfl) rv_I0)) (by rw [List.length_map])) fun _ => et_is (et_not (et_B (ev_all (lc H (Ex.refl H))))) (by rw [List.all_map]; rfl)) (by simp)) (fun hb H1 e1 => ?_) fun hb H1 e1 => ?_
      · refine s_ret ev_c fun H2 e2 => ?_
        have := k H2 (e1.trans e2)
        unfold namesB at this
        rw [hb] at this
        exact this
      · refine s_ret (v := .bl (decide (many xs.reverse = xs.length))) (ev_is (ev_op (x := .int (many xs.reverse)) (y := .int xs.length) (fun H2 e2 Q' q => ⟨_, rfl, a, xs, rfl, .inl (ex_l (e1.trans e2) hs), by unfold scanBound; omega, q H2 (Ex.refl H2)⟩) (ev_cb (ea_cons (ev_var rfl) ea_nil) fun H2 e2 Q' q => ⟨a, _, rfl, .inl (ex_l (e1.trans e2) hs), by rw [List.length_map]; exact q H2 (Ex.refl H2)⟩) (rv_eq rfl)) ?_) fun H2 e2 => ?_
        · by_cases h : many xs.reverse = xs.length
          · simp [h]
          · have : ¬ ((many xs.reverse : Int) = (xs.length : Int)) := by omega
            simp [h, this]
        · have := k H2 (e1.trans e2)
          unfold namesB at this
          rw [hb] at this
          simpa using this
    · have hd : Dp K H (.ref a) (.tuple (xs.map PyData.str)) := .tup hs (dp_texts xs)
      refine q_when (b := true) (et_or (a := false) (b := true) (et_is (et_not (et_B (ev_call (ea_cons (ev_var rfl) ea_nil) (spv_chk (φ := isSeqD) hd (by simpa only [PyData.canLay0] using canLay_texts xs hx))))) rfl) fun _ => et_is (et_or (a := true) (b := true) (et_is (et_test (ev_op (ev_cb (ea_cons (ev_var rfl) ea_nil) fun H1 e Q' q => ⟨a, _, rfl, .inr (ex_t e hs), q H1 (Ex.refl H1)⟩) (ev_var rfl) rv_I0)) (by rw [List.length_map]; exact decide_eq_true hm)) fun h => nomatch h) rfl) (fun _ H1 e1 => s_ret ev_c fun H2 e2 => k H2 (e1.trans e2)) fun h => nomatch h
    · refine q_when (b := true) (et_or (a := true) (b := true) (et_is (et_not (et_B (ev_call (ea_cons (ev_var rfl) ea_nil) (spv_chk (φ := isSeqD) (.str x) hx)))) rfl) fun h => nomatch h) (fun _ H1 e1 => s_ret ev_c fun H2 e2 => k H2 (e1.trans e2)) fun h => nomatch h
end
section
variable {P : Program} {w : World} {K : PySem.W.Frag} {mg : Str → Option Value} {base : Heap} {A : Ad}
/-! ### drawn values -/
def leafV : List V := [.int 0, .int 1, .int (-1), .bl true, .bl false, .non, .str "x", .str "done", .str "", .int (10 ^ 40), .str "a b"]
def leafD : List PyData := [.int 0, .int 1, .int (-1), .bool true, .bool false, .none, .str "x", .str "done", .str "", .int (10 ^ 40), .str "a b"]
theorem leaf_dp (H : Hp) : DpAll K H leafV leafD := .cons (.int _) (.cons (.int _) (.cons (.int _) (.cons (.bl _) (.cons (.bl _) (.cons .non (.cons (.str _) (.cons (.str _) (.cons (.str _) (.cons (.int _) (.cons (.str _) .nil))))))))))
theorem leaf_ok : (leafD.all fun d => decide (d.depth = 0) && decide (d.weight ≤ 140) && d.canLay0 && d.showable && d.leavesShort 44) = true := by decide +kernel
theorem leaf_small {i : Nat} {d : PyData} (h : leafD[i]? = some d) : Small 0 140 d ∧ tupd d = d := by
  have h1 := List.all_eq_true.mp leaf_ok d (List.mem_of_getElem? h)
  simp only [Bool.and_eq_true, decide_eq_true_eq] at h1
  refine ⟨⟨by omega, h1.1.1.1.2, h1.1.1.2, h1.1.2, h1.2⟩, ?_⟩
  have hd := h1.1.1.1.1
  cases d <;> simp_all [PyData.depth, tupd]
def dr : Nat → Nat
  | 0 => 2
  | n + 1 => 2 + 3 * dr n
def wB : Nat → Nat
  | 0 => 140
  | n + 1 => 3 * (wB n + 1)
theorem samep_hid {p : Addr} {S : List Addr} {H H' : Hp} (h : SameP p H H') (hp : p ∈ S) : Ex (hid S H) (hid S H') := fun b o e => by
  unfold hid at *
  split at e
  · cases e
  · rename_i n
    rw [if_neg n]
    exact h.ob b o (fun z => n (z ▸ hp)) e
theorem samep_here {p : Addr} {S : List Addr} {H H' : Hp} (h : SameP p H H') (hp : H' p ≠ none) (hS : Here S H) : Here S H' := fun b hb z => by
  by_cases e : b = p
  · subst e; exact hp z
  · cases q : H b with
    | none => exact hS b hb q
    | some o =>
      rw [h.ob b o e q] at z
      cases z
theorem PenOk.at_ {H : Hp} {p : Addr} {b : Nat} (h : PenOk H p b) : H p ≠ none := by
  obtain ⟨c, ns, lap, g, h1, _⟩ := h
  rw [h1]
  exact nofun
theorem SameP.mut {p q : Addr} {o : HO} {H H' : Hp} (h : SameP p H H') (hq : H q = none) : SameP p H (L2.upd H' q o) := ⟨fun b u n e => by
  rw [upd_ne (ne_of_none e hq)]
  exact h.ob b u n e, fun r xs e => by
  rw [upd_ne (ne_of_none e hq)]
  exact h.hd r xs e⟩
/-- a pair: a value, and it with tuples for lists -/
def PairAt (K : PySem.W.Frag) (H : Hp) (v : V) (d : PyData) : Prop := ∃ t x y, v = .ref t ∧ H t = some (.tup [x, y]) ∧ Dp K H x d ∧ Dp K H y (tupd d)
theorem PairAt.up {H H' : Hp} {v : V} {d : PyData} (e : Ex H H') (h : PairAt K H v d) : PairAt K H' v d := by
  obtain ⟨t, x, y, hv, ht, hx, hy⟩ := h
  exact ⟨t, x, y, hv, e t _ ht, Dp.ext e hx, Dp.ext e hy⟩
theorem PenOk.mut {H H' : Hp} {p q : Addr} {o : HO} {b b' : Nat} (h0 : PenOk H p b) (sm : SameP p H H') (h : PenOk H' p b') (hq : H q = none) : PenOk (L2.upd H' q o) p b' := by
  obtain ⟨c0, ns0, lap0, g0, hp0, hc0, n0, _⟩ := h0
  obtain ⟨c, ns, lap, g, hp, hc, n, h4⟩ := h
  obtain ⟨ys, e⟩ := sm.hd _ _ hp0
  rw [hp] at e
  cases e
  exact ⟨_, ns, lap, g, by rw [upd_ne (ne_of_none hp0 hq)]; exact hp, by rw [upd_ne (ne_of_none hc0 hq)]; exact hc, n, h4⟩
theorem smalls_of {n W : Nat} : ∀ {ds : List PyData}, (∀ d ∈ ds, Small n W d) → Smalls n W ds
  | [], _ => .nil
  | d :: _, h => .cons (h d List.mem_cons_self) (smalls_of fun e he => h e (List.mem_cons_of_mem _ he))
theorem dpAll_of {H : Hp} : ∀ {xs : List V} {ds : List PyData}, xs.length = ds.length → (∀ (m : Nat) (x : V), xs[m]? = some x → ∃ d, ds[m]? = some d ∧ Dp K H x d) → DpAll K H xs ds
  | [], [], _, _ => .nil
  | x :: xs, d :: ds, hl, h => .cons (by obtain ⟨e, he, hd⟩ := h 0 x rfl; cases he; exact hd) (dpAll_of (by simpa using hl) fun m y hy => h (m + 1) y hy)
/-- a row of pairs -/
structure Prs (K : PySem.W.Frag) (H : Hp) (acc xs ys : List V) (ds : List PyData) : Prop where
  lx : xs.length = acc.length
  ly : ys.length = acc.length
  ld : ds.length = acc.length
  at_ : ∀ (m : Nat) (u : V), acc[m]? = some u → ∃ t x y d, u = .ref t ∧ xs[m]? = some x ∧ ys[m]? = some y ∧ ds[m]? = some d ∧ H t = some (.tup [x, y]) ∧ Dp K H x d ∧ Dp K H y (tupd d)
theorem Prs.up {H H' : Hp} {acc xs ys : List V} {ds : List PyData} (e : Ex H H') (h : Prs K H acc xs ys ds) : Prs K H' acc xs ys ds := ⟨h.lx, h.ly, h.ld, fun m u hu => by
  obtain ⟨t, x, y, d, h1, h2, h3, h4, h5, h6, h7⟩ := h.at_ m u hu
  exact ⟨t, x, y, d, h1, h2, h3, h4, e t _ h5, Dp.ext e h6, Dp.ext e h7⟩⟩
theorem Prs.snoc {H : Hp} {acc xs ys : List V} {ds : List PyData} {u : V} {d : PyData} (h : Prs K H acc xs ys ds) (pa : PairAt K H u d) : ∃ x y, Prs K H (acc ++ [u]) (xs ++ [x]) (ys ++ [y]) (ds ++ [d]) := by
  obtain ⟨t, x, y, hu, ht, hx, hy⟩ := pa
  have lx := h.lx
  have ly := h.ly
  have ld := h.ld
  refine ⟨x, y, by simp [lx], by simp [ly], by simp [ld], fun m v hv => ?_⟩
  by_cases hm : m < acc.length
  · rw [List.getElem?_append_left hm] at hv
    obtain ⟨t', x', y', d', h1, h2, h3, h4, h5⟩ := h.at_ m v hv
    exact ⟨t', x', y', d', h1, by rw [List.getElem?_append_left (by omega)]; exact h2, by rw [List.getElem?_append_left (by omega)]; exact h3, by rw [List.getElem?_append_left (by omega)]; exact h4, h5⟩
  · have hm2 : m = acc.length := by
      have := (List.getElem?_eq_some_iff.mp hv).1
      simp at this
      omega
    subst hm2
    rw [List.getElem?_append_right (Nat.le_refl _), Nat.sub_self] at hv
    cases hv
    exact ⟨t, x, y, d, hu, by rw [← lx, List.getElem?_append_right (Nat.le_refl _), Nat.sub_self]; rfl, by rw [← ly, List.getElem?_append_right (Nat.le_refl _), Nat.sub_self]; rfl, by rw [← ld, List.getElem?_append_right (Nat.le_refl _), Nat.sub_self]; rfl, ht, hx, hy⟩
theorem Prs.one {H : Hp} {acc xs ys : List V} {ds : List PyData} (h : Prs K H acc xs ys ds) : DpAll K H xs ds := dpAll_of (by rw [h.lx, h.ld]) fun m x hx => by
  have hm := (List.getElem?_eq_some_iff.mp hx).1
  have lx := h.lx
  obtain ⟨t, x', y, d, h1, h2, h3, h4, h5, h6, h7⟩ := h.at_ m _ (List.getElem?_eq_getElem (by omega))
  rw [hx] at h2
  cases h2
  exact ⟨d, h4, h6⟩
theorem Prs.two {H : Hp} {acc xs ys : List V} {ds : List PyData} (h : Prs K H acc xs ys ds) : DpAll K H ys (tupdAll ds) := dpAll_of (by rw [h.ly, tupdAll_map, List.length_map, h.ld]) fun m x hx => by
  have hm := (List.getElem?_eq_some_iff.mp hx).1
  have ly := h.ly
  obtain ⟨t, x', y, d, h1, h2, h3, h4, h5, h6, h7⟩ := h.at_ m _ (List.getElem?_eq_getElem (by omega))
  rw [hx] at h3
  cases h3
  exact ⟨tupd d, by rw [tupdAll_map, List.getElem?_map, h4]; rfl, h7⟩
theorem Prs.xs_ {H : Hp} {acc xs ys : List V} {ds : List PyData} (h : Prs K H acc xs ys ds) : (List.range acc.length).map (fun m => xs.getD m .non) = xs := by
  refine List.ext_getElem? fun m => ?_
  rw [List.getElem?_map]
  by_cases hm : m < acc.length
  · rw [List.getElem?_range hm, Option.map_some, List.getD_eq_getElem?_getD, List.getElem?_eq_getElem (by rw [h.lx]; exact hm)]
    rfl
  · rw [List.getElem?_eq_none (by simpa using hm), List.getElem?_eq_none (by rw [h.lx]; omega)]
    rfl
theorem Prs.ys_ {H : Hp} {acc xs ys : List V} {ds : List PyData} (h : Prs K H acc xs ys ds) : (List.range acc.length).map (fun m => ys.getD m .non) = ys := by
  refine List.ext_getElem? fun m => ?_
  rw [List.getElem?_map]
  by_cases hm : m < acc.length
  · rw [List.getElem?_range hm, Option.map_some, List.getD_eq_getElem?_getD, List.getElem?_eq_getElem (by rw [h.ly]; exact hm)]
    rfl
  · rw [List.getElem?_eq_none (by simpa using hm), List.getElem?_eq_none (by rw [h.ly]; omega)]
    rfl
def spAny (K : PySem.W.Frag) (n : Nat) : Sp := fun vs H Q _ => ∃ (p : Addr) (S : List Addr) (b : Nat), vs = [.ref p, .int n] ∧ p ∈ S ∧ Here S H ∧ PenOk H p (b + dr n) ∧
  ∀ v d H', SameP p H H' → PairAt K (hid S H') v d → Small n (wB n) d → PenOk H' p b → Q v H'
theorem pick_mono {vs : List V} {H : Hp} {Q Q' : VK} {E : XK} (h : spPick K vs H Q E) (q : ∀ v H', Q v H' → Q' v H') : spPick K vs H Q' E := by
  obtain ⟨p, l, xs, b, h1, h2, h3, h4, h5, h6⟩ := h
  exact ⟨p, l, xs, b, h1, h2, h3, h4, h5, fun i v H' a c d => q v H' (h6 i v H' a c d)⟩
theorem dr_two (n : Nat) : 2 ≤ dr n := by cases n <;> simp only [dr] <;> omega
theorem ok_any (F : F10 K A) (T : T10 mg K A) (n : Nat) : FnOk P w K mg base CX0 (n + 3) A.aAny F.fAny ["pen", "deep"] (spAny K n) := by
  have bDraw : Binds K F.fDraw ["pen", "many"] [] := F.FDraw.binds (fun _ _ _ _ _ _ us hl => match us, hl with | [_, _], _ => rfl)
  have bPick : Binds K F.fPick ["pen", "some"] [] := F.FPick.binds (fun _ _ _ _ _ _ us hl => match us, hl with | [_, _], _ => rfl)
  have bAny : Binds K F.fAny ["pen", "deep"] [] := F.FAny.binds (fun _ _ _ _ _ _ us hl => match us, hl with | [_, _], _ => rfl)
  have GDraw := (ok_draw (P := P) (w := w) (mg := mg) (base := base) F T).mono (show 1 ≤ 2 by decide)
  have GPick := ok_pick (P := P) (w := w) (mg := mg) (base := base) F T
  -- the leaf: a pick, told twice
  have leaf : ∀ (H1 : Hp) (p : Addr) (S : List Addr) (b : Nat) (m : Nat) (Q : VK) (E : XK), p ∈ S → Here S H1 → PenOk H1 p (b + 1) → (∀ v d H', SameP p H1 H' → PairAt K (hid S H') v d → Small m (wB m) d → PenOk H' p b → Q v H') →
      ∀ (l : Addr), H1 l = none → spPick K ([.ref p, .ref l] ++ []) (upd H1 l (.lst leafV)) (fun v H3 => 2 ≤ sizeLine ∧ ∀ t, H3 t = none → Q (.ref t) (upd H3 t (.tup [v, v]))) E := by
    intro H1 p S b m Q E hpS hS hp k l hl
    have pl : l ≠ p := fun e => hp.at_ (e ▸ hl)
    refine ⟨p, l, leafV, b, rfl, .inl (SqL.of (by rw [hide_get pl]; exact upd_same)), by decide, by decide, hp.ext (Ex.new hl), fun i v H3 hv sm hp2 => ?_⟩
    refine ⟨by decide, fun t ht => ?_⟩
    obtain ⟨d, hd, hdp⟩ := DpAll.get (leaf_dp (K := K) (upd (hid S H3) t (.tup [v, v]))) hv
    obtain ⟨sm1, sm2⟩ := leaf_small hd
    have s1 : SameP p H1 H3 := SameP.trans (SameP.of (Ex.new hl)) sm
    have hS3 := samep_here s1 hp2.at_ hS
    have ht2 : t ∉ S := hS3.not ht
    have e4 : hid S (upd H3 t (.tup [v, v])) = upd (hid S H3) t (.tup [v, v]) := by
      funext z
      unfold hid
      by_cases q : z = t
      · subst q
        rw [if_neg ht2, upd_same, upd_same]
      · rw [upd_ne q, upd_ne q]
    refine k _ d _ (s1.new ht) ⟨t, v, v, rfl, by rw [e4]; exact upd_same, by rw [e4]; exact hdp, by rw [e4, sm2]; exact hdp⟩ (sm1.mono (Nat.zero_le _) ?_) (hp2.ext (Ex.new ht))
    clear k
    induction m with
    | zero => exact Nat.le_refl _
    | succ m ih => simp only [wB]; omega
  induction n with
  | zero =>
    refine F.FAny.ok scAny (fun vs H Q E h => ?_) (fun cdv Ar outer s H vs Q E hr h => ?_)
    · obtain ⟨p, S, b, rfl, _⟩ := h
      rfl
    · obtain ⟨p, S, b, rfl, hpS, hS, hp, k⟩ := h
      have hr1 := hr
      refine ⟨_, (pss_cons (ps_set (i := 2) scAny.nd rfl (Or.inl rfl) (pe_call GDraw hr1 rfl T.gDraw T.kDraw bDraw .nil pass0 (pa_cons (pv 0) (pa_cons pe_int pa_nil))))
  (pss_cons (ps_if (PW.pt (pw_and (pt_cmpR op_gt (pv 1) pe_int (nomark _)) (pw_and1 (pt_cmpR op_lt (pv 2) pe_int (nomark _))))) (pss_cons ps_never
  (pss_one ps_never)) pss_nil)
  (pss_cons (ps_set (i := 7) scAny.nd rfl (Or.inl rfl) (pe_call GPick hr1 rfl T.gPick T.kPick bPick .nil pass0 (pa_cons (pv 0) (pa_cons (pe_lst (pa_cons pe_int (pa_cons pe_int (pa_cons (pe_un un_neg pe_int) (pa_cons pe_bl (pa_cons pe_bl (pa_cons pe_non (pa_cons pe_str (pa_cons pe_str (pa_cons pe_str (pa_cons (pe_op op_pow pe_int pe_int) (pa_cons pe_str pa_nil)))))))))))) pa_nil))))
  (pss_one (ps_ret (pe_tup (pa_cons (pv 7) (pa_cons (pv 7) pa_nil)))))))), ?_⟩
      refine ⟨_, rfl, p, 8, b + 1, rfl, by decide, by decide, hp, fun r H1 r0 r1 sm hp1 => ?_⟩
      refine q_when (b := false) (et_is (et_and (a := false) (b := false) (et_test (ev_op (ev_var rfl) ev_c rv_I0)) fun h => nomatch h) rfl) (fun h => nomatch h) fun _ H2 e2 => ?_
      refine ⟨_, rfl, ⟨_, rfl, _, _, rfl, rfl, ⟨by decide, by decide, by decide⟩, by show 11 ≤ sizeLine; decide, fun l hl => ?_⟩⟩
      have s2 : SameP p H H2 := SameP.trans sm (SameP.of e2)
      refine pick_mono (leaf H2 p S b 0 Q E hpS (samep_here s2 (hp1.ext e2).at_ hS) (hp1.ext e2) (fun v d H3 sm3 pa hs hp3 => k v d H3 (SameP.trans s2 sm3) pa hs hp3) l hl) fun v H3 h => ?_
      exact ⟨_, rfl, _, rfl, h.1, h.2⟩
  | succ n GAny =>
    refine F.FAny.ok scAny (fun vs H Q E h => ?_) (fun cdv Ar outer s H vs Q E hr h => ?_)
    · obtain ⟨p, S, b, rfl, _⟩ := h
      rfl
    · obtain ⟨p, S, b, rfl, hpS, hS, hp, k⟩ := h
      have hr1 : Room (n + 3) _ := hr
      have hr2 := hr1.mono (show 2 ≤ n + 3 by omega)
      have d2 := dr_two (n + 1)
      refine ⟨_, (pss_cons (ps_set (i := 2) scAny.nd rfl (Or.inl rfl) (pe_call GDraw hr2 rfl T.gDraw T.kDraw bDraw .nil pass0 (pa_cons (pv 0) (pa_cons pe_int pa_nil))))
  (pss_cons (ps_if (PW.pt (pw_and (pt_cmpR op_gt (pv 1) pe_int (nomark _)) (pw_and1 (pt_cmpR op_lt (pv 2) pe_int (nomark _))))) (pss_cons (ps_setLc (i := 3) (own := [("turn", 4)]) rfl scAny.nd rfl rfl (sw_true rfl rfl rfl (by decide +kernel)) (pi_range1 rfl T.b_range (pa_cons (pe_call GDraw hr2 rfl T.gDraw T.kDraw bDraw .nil pass0 (pa_cons (pv 0) (pa_cons pe_int pa_nil))) pa_nil)) (blkOk_by (own := [("turn", 4)]) (N := ["pen", "deep", "way", "some", "turn", "one", "other", "value"]) (sc := defScope (top 31)) (by decide +kernel)) (fun _ _ _ _ _ => (pg_name (i := 4) scAny.nd rfl (Or.inl rfl))) (fun _ _ _ _ _ => pts_nil) (fun _ _ _ _ _ => (pe_call GAny hr1 rfl T.gAny T.kAny bAny .nil pass0 (pa_cons (pv 0) (pa_cons (pe_op op_sub (pv 1) pe_int) pa_nil)))))
  (pss_one (ps_ret (pe_tup (pa_cons (pe_ifExp (pt_cmpR op_lt (pv 2) pe_int (nomark _)) (pe_lc (own := [("one", 5), ("other", 6)]) rfl scAny.nd (pi_list (pv 3)) (blkOk_by (own := [("one", 5), ("other", 6)]) (N := ["pen", "deep", "way", "some", "turn", "one", "other", "value"]) (sc := defScope (top 31)) (by decide +kernel)) (fun _ _ _ _ _ => (OwnL.pg_tupC (K := K) (n := 2) rfl rfl (pgs_cons (pg_name (i := 5) scAny.nd rfl (Or.inl rfl)) (pgs_cons (pg_name (i := 6) scAny.nd rfl (Or.inl rfl)) pgs_nil)))) (fun _ _ _ _ _ => pts_nil) (fun _ _ _ _ _ => (pv 5))) (pe_callTy call_tuple_of (by rfl) T.b_tuple (by decide +kernel) (pa_cons (pe_lc (own := [("one", 5), ("other", 6)]) rfl scAny.nd (pi_list (pv 3)) (blkOk_by (own := [("one", 5), ("other", 6)]) (N := ["pen", "deep", "way", "some", "turn", "one", "other", "value"]) (sc := defScope (top 31)) (by decide +kernel)) (fun _ _ _ _ _ => (OwnL.pg_tupC (K := K) (n := 2) rfl rfl (pgs_cons (pg_name (i := 5) scAny.nd rfl (Or.inl rfl)) (pgs_cons (pg_name (i := 6) scAny.nd rfl (Or.inl rfl)) pgs_nil)))) (fun _ _ _ _ _ => pts_nil) (fun _ _ _ _ _ => (pv 5))) pa_nil))) (pa_cons (pe_callTy call_tuple_of (by rfl) T.b_tuple (by decide +kernel) (pa_cons (pe_lc (own := [("one", 5), ("other", 6)]) rfl scAny.nd (pi_list (pv 3)) (blkOk_by (own := [("one", 5), ("other", 6)]) (N := ["pen", "deep", "way", "some", "turn", "one", "other", "value"]) (sc := defScope (top 31)) (by decide +kernel)) (fun _ _ _ _ _ => (OwnL.pg_tupC (K := K) (n := 2) rfl rfl (pgs_cons (pg_name (i := 5) scAny.nd rfl (Or.inl rfl)) (pgs_cons (pg_name (i := 6) scAny.nd rfl (Or.inl rfl)) pgs_nil)))) (fun _ _ _ _ _ => pts_nil) (fun _ _ _ _ _ => (pv 6))) pa_nil)) pa_nil)))))) pss_nil)
  (pss_cons (ps_set (i := 7) scAny.nd rfl (Or.inl rfl) (pe_call GPick hr2 rfl T.gPick T.kPick bPick .nil pass0 (pa_cons (pv 0) (pa_cons (pe_lst (pa_cons pe_int (pa_cons pe_int (pa_cons (pe_un un_neg pe_int) (pa_cons pe_bl (pa_cons pe_bl (pa_cons pe_non (pa_cons pe_str (pa_cons pe_str (pa_cons pe_str (pa_cons (pe_op op_pow pe_int pe_int) (pa_cons pe_str pa_nil)))))))))))) pa_nil))))
  (pss_one (ps_ret (pe_tup (pa_cons (pv 7) (pa_cons (pv 7) pa_nil)))))))), ?_⟩
      refine ⟨_, rfl, p, 8, b + dr (n + 1) - 1, rfl, by decide, by decide, by rw [show b + dr (n + 1) - 1 + 1 = b + dr (n + 1) by omega]; exact hp, fun r H1 r0 r1 sm hp1 => ?_⟩
      refine q_when (b := decide (r < 3)) (et_is (et_and (a := true) (b := decide (r < 3)) (et_is (et_test (ev_op (ev_var rfl) ev_c rv_I0)) (decide_eq_true (by omega))) fun _ => et_test (ev_op (ev_var rfl) ev_c rv_I0)) rfl) (fun hb H2 e2 => ?_) fun _ H2 e2 => ?_
      · have s2 : SameP p H H2 := SameP.trans sm (SameP.of e2)
        have hp2 : PenOk H2 p (b + 3 * dr n + 1) := (hp1.ext e2).less (by simp only [dr]; omega)
        refine ⟨_, rfl, p, 4, b + 3 * dr n, rfl, by decide, by decide, hp2, fun m H3 m0 m1 sm3 hp3 => ⟨m, rfl, by omega, by omega, fun D hD => ?_⟩⟩
        have s3 : SameP p H H3 := s2.trans sm3
        have hS3 := samep_here s3 hp3.at_ hS
        have nDp : D ≠ p := fun e => hp3.at_ (e ▸ hD)
        have nDS : D ∉ S := hS3.not hD
        have hm3 : m.toNat ≤ 3 := by omega
        have mul3 : ∀ i : Nat, i < m.toNat → (m.toNat - i) * dr n = (m.toNat - (i + 1)) * dr n + dr n := fun i hi => by
          rw [show m.toNat - i = (m.toNat - (i + 1)) + 1 by omega, Nat.succ_mul]
        refine lc_range (fun i H' => PenOk H' p (b + (m.toNat - i) * dr n) ∧ SameP p H3 H' ∧ ∃ acc xs ys ds, H' D = some (.lst acc) ∧ acc.length = i ∧ Prs K (hid (D :: S) H') acc xs ys ds ∧ ∀ d ∈ ds, Small n (wB n) d) ⟨?_, SameP.of (Ex.new hD), [], [], [], [], upd_same, rfl, ⟨rfl, rfl, rfl, fun m u h => by simp at h⟩, fun d h => by simp at h⟩ (fun i H' hi h => ?_) (fun H' h => ?_)
        · exact (hp3.ext (Ex.new hD)).less (Nat.add_le_add_left (Nat.mul_le_mul_right _ (by omega)) _)
        · obtain ⟨hp4, s4, acc, xs, ys, ds, h1, h2, h3, h4⟩ := h
          refine ⟨rfl, ?_⟩
          refine yes_if ?_
          refine (ea_cons (ev_var rfl) (ea_cons (ev_op (ev_var rfl) ev_c rv_I0) ea_nil)) H' (Ex.refl H') _ fun H5 e5 => ?_
          have hS5 : Here (D :: S) H5 := ((samep_here s4 hp4.at_ hS3).up e5).cons (e5 D _ h1)
          refine ⟨p, D :: S, b + (m.toNat - (i + 1)) * dr n, ?_, List.mem_cons_of_mem _ hpS, hS5, (hp4.ext e5).less (by rw [mul3 i hi]; omega), fun v d H6 s6 pa sd hp6 => ?_⟩
          · show [V.ref p, V.int (((n + 1 : Nat) : Int) - 1)] = [V.ref p, V.int (n : Int)]
            rw [show ((n + 1 : Nat) : Int) - 1 = (n : Int) by omega]
          · have s36 : SameP p H3 H6 := (s4.trans (SameP.of e5)).trans s6
            obtain ⟨x, y, h7⟩ := (h3.up ((hid_ex e5).trans (samep_hid s6 (List.mem_cons_of_mem _ hpS)))).snoc pa
            refine ⟨acc, s6.ob D _ nDp (e5 D _ h1), sz_lt (by omega), hp3.mut s36 hp6 hD, s36.mut hD, acc ++ [v], xs ++ [x], ys ++ [y], ds ++ [d], upd_same, by simp [h2], ?_, fun d' hd' => ?_⟩
            · rw [hid_upd List.mem_cons_self]
              exact h7
            · rcases List.mem_append.mp hd' with h | h
              · exact h4 d' h
              · rw [List.mem_singleton.mp h]
                exact sd
        · obtain ⟨hp4, s4, acc, xs, ys, ds, h1, h2, h3, h4⟩ := h
          have hS4 := samep_here s4 hp4.at_ hS3
          have lz : acc.length ≤ 3 := by omega
          have hw : ds.length * (wB n + 1) ≤ wB (n + 1) := by
            simp only [wB]
            exact Nat.mul_le_mul_right _ (by rw [h3.ld]; exact lz)
          have sL : Small (n + 1) (wB (n + 1)) (.list ds) := (smalls_of h4).list hw
          have sT : Small (n + 1) (wB (n + 1)) (.tuple ds) := (smalls_of h4).tuple hw
          have up : Ex (hid (D :: S) H') (hid S H') := hid_less
          have prs : ∀ (H5 : Hp), Ex H' H5 → ∀ m u, acc[m]? = some u → ∃ t, u = .ref t ∧ SqT K H5 t [xs.getD m .non, ys.getD m .non] := fun H5 e5 m u hu => by
            obtain ⟨t, x, y, d, q1, q2, q3, _, q5, _⟩ := h3.at_ m u hu
            refine ⟨t, q1, ?_⟩
            rw [List.getD_eq_getElem?_getD, List.getD_eq_getElem?_getD, q2, q3]
            exact st_of (e5 t _ (hid_out _ t _ q5))
          have one : ∀ H5, Ex H' H5 → EvL (tLc (iList K (tVar 3)) (gTup K 2 (gCons (gName 5) (gCons (gName 6) gNil))) tYes (tVar 5) [5, 6]) [some (.ref p), some (.int (n + 1 : Nat)), some (.int r), some (.ref D), none, none, none, none] H5 xs := fun H5 e5 => by
            have := el_lcPair (K := K) (a := D) (ls := acc) (tl := tVar 3) (i := 5) (j := 6) (k := 5) (vs := [5, 6]) (H := H5) (σ := [some (.ref p), some (.int (n + 1 : Nat)), some (.int r), some (.ref D), none, none, none, none]) (fun x _ => x) (fun m => xs.getD m .non) (fun m => ys.getD m .non) (ev_var rfl) (sq_of (e5 D _ h1)) (prs H5 e5) (by omega) (fun _ _ => rfl) (fun _ _ => rfl)
            rw [h3.xs_] at this
            exact this
          have two : ∀ H5, Ex H' H5 → EvL (tLc (iList K (tVar 3)) (gTup K 2 (gCons (gName 5) (gCons (gName 6) gNil))) tYes (tVar 6) [5, 6]) [some (.ref p), some (.int (n + 1 : Nat)), some (.int r), some (.ref D), none, none, none, none] H5 ys := fun H5 e5 => by
            have := el_lcPair (K := K) (a := D) (ls := acc) (tl := tVar 3) (i := 5) (j := 6) (k := 6) (vs := [5, 6]) (H := H5) (σ := [some (.ref p), some (.int (n + 1 : Nat)), some (.int r), some (.ref D), none, none, none, none]) (fun _ y => y) (fun m => xs.getD m .non) (fun m => ys.getD m .non) (ev_var rfl) (sq_of (e5 D _ h1)) (prs H5 e5) (by omega) (fun _ _ => rfl) (fun _ _ => rfl)
            rw [h3.ys_] at this
            exact this
          have cond := ep_if (σ := [some (.ref p), some (.int (n + 1 : Nat)), some (.int r), some (.ref D), none, none, none, none]) (P := fun v H5 => ∃ q, v = .ref q ∧ H' q = none ∧ H5 q = some (if r < 2 then HO.lst xs else HO.tup xs)) (b := decide (r < 2)) (et_test (ev_op (x := .int r) (y := .int 2) (ev_var (i := 2) rfl) ev_c (rv_I0 (g := fun i j => V.bl (decide (i < j)))))) (fun z => (EvP.ofL (one H' (Ex.refl H'))).imp fun v H5 e5 ⟨q, h5, h6, h7⟩ => ⟨q, h5, h6, by rw [if_pos (of_decide_eq_true z)]; exact h7⟩) (fun z => (EvP.ofU (eu_tupOf (K := K) (one H' (Ex.refl H')))).imp fun v H5 e5 ⟨q, h5, h6, h7⟩ => ⟨q, h5, h6, by rw [if_neg (of_decide_eq_false z)]; exact h7⟩)
          refine sr_ret (ep_tup (ep_cons (fun v H5 H6 e6 ⟨q, h5, h6, h7⟩ => ⟨q, h5, h6, e6 q _ h7⟩) cond (ep_cons (fun v H5 H6 e6 ⟨q, h5, h6, h7⟩ => ⟨q, h5, h6, e6 q _ h7⟩) (EvP.ofU (eu_tupOf (K := K) (two H' (Ex.refl H')))) ep_nil)) (fun vs H5 ⟨u, us, q1, _, u2, us2, q2, _, q3⟩ => by subst q1; subst q2; subst q3; exact Nat.le_of_ble_eq_true rfl) (fun vs H5 H6 e6 ⟨u, us, q1, ⟨q, h5, h6, h7⟩, u2, us2, q2, ⟨q', h5', h6', h7'⟩, q3⟩ => ⟨u, us, q1, ⟨q, h5, h6, e6 q _ h7⟩, u2, us2, q2, ⟨q', h5', h6', e6 q' _ h7'⟩, q3⟩)) fun v H6 e6 ⟨t, vs, hv, ht, h6, u, us, q1, ⟨q, hu, hq, hq6⟩, u2, us2, q2, ⟨q', hu2, hq', hq6'⟩, q3⟩ => ?_
          subst q1
          subst q2
          subst q3
          subst hu
          subst hu2
          subst hv
          have dpo := DpAll.ext (up.trans (hid_ex e6)) h3.one
          have dpt := DpAll.ext (up.trans (hid_ex e6)) h3.two
          have sqt : SqT K (hid S H6) q' ys := st_of (hid_at (hS4.not hq') hq6')
          refine k _ (if r < 2 then .list ds else .tuple ds) H6 (s3.trans (s4.trans (SameP.of e6))) ⟨t, .ref q, .ref q', rfl, hid_at (hS4.not ht) h6, ?_, ?_⟩ ?_ ((hp4.ext e6).less (by omega))
          · by_cases z : r < 2
            · rw [if_pos z] at hq6 ⊢
              exact .lst (sq_of (hid_at (hS4.not hq) hq6)) dpo
            · rw [if_neg z] at hq6 ⊢
              exact .tup (st_of (hid_at (hS4.not hq) hq6)) dpo
          · by_cases z : r < 2
            · rw [if_pos z]
              exact .tup sqt dpt
            · rw [if_neg z]
              exact .tup sqt dpt
          · by_cases z : r < 2
            · rw [if_pos z]
              exact sL
            · rw [if_neg z]
              exact sT
      · refine ⟨_, rfl, ⟨_, rfl, _, _, rfl, rfl, ⟨by decide, by decide, by decide⟩, by show 11 ≤ sizeLine; decide, fun l hl => ?_⟩⟩
        have s2 : SameP p H H2 := SameP.trans sm (SameP.of e2)
        have hp2 : PenOk H2 p (b + 1) := (hp1.ext e2).less (by omega)
        refine pick_mono (leaf H2 p S b (n + 1) Q E hpS (samep_here s2 hp2.at_ hS) hp2 (fun v d H3 sm3 pa hs hp3 => k v d H3 (SameP.trans s2 sm3) pa hs hp3) l hl) fun v H3 h => ?_
        exact ⟨_, rfl, _, rfl, h.1, h.2⟩
end
section
variable {P : Program} {w : World} {K : PySem.W.Frag} {mg : Str → Option Value} {base : Heap} {A : Ad}
/-! ### the pen -/
theorem cut63 (ns : List Int) : ∃ ms : List Int, cutV (ns.map V.int) none (some 63) = ms.map V.int ∧ ms.length ≤ 63 := by
  refine ⟨(ns.drop (HT.sIx (ns.map V.int).length 0 none)).take (HT.sIx (ns.map V.int).length (ns.map V.int).length (some 63) - HT.sIx (ns.map V.int).length 0 none), ?_, ?_⟩
  · unfold cutV
    rw [List.map_take, List.map_drop]
  · rw [List.length_take, List.length_drop]
    have h : HT.sIx (ns.map V.int).length (ns.map V.int).length (some 63) ≤ 63 := by
      simp [HT.sIx]
      omega
    omega
def spPen (K : PySem.W.Frag) : Sp := fun vs H Q _ => ∃ (s : Addr) (ns : List Int), vs = [.ref s] ∧ SqL K H s (ns.map V.int) ∧ ∀ p H', Ex H H' → H p = none → PenOk H' p 1000000 → Q (.ref p) H'
theorem ok_pen (F : F10 K A) (T : T10 mg K A) : FnOk P w K mg base CX0 1 A.aPen F.fPen ["script"] (spPen K) := by
  refine F.FPen.ok scPen (fun vs H Q E h => ?_) (fun cdv Ar outer s H vs Q E hr h => ?_)
  · obtain ⟨p, ns, rfl, _⟩ := h
    rfl
  · obtain ⟨c, ns, rfl, hc, k⟩ := h
    obtain ⟨ms, hms, lms⟩ := cut63 ns
    refine ⟨_, (pss_one (ps_ret (pe_lst (pa_cons (pe_callTy call_list_of (by rfl) T.b_list (by decide +kernel) (pa_cons (pe_slice sl_list (pv 0) po_none (po_some pe_int)) pa_nil)) (pa_cons pe_int (pa_cons pe_int pa_nil)))))), ?_⟩
    have cp : EvP (tCB (rListS K) (tCons (tSl (rSlL K) (tVar 0) tNoPart (tPart (tC (V.int 63)))) tNil)) [some (.ref c)] H fun v H2 => ∃ p, v = .ref p ∧ H p = none ∧ H2 p = some (.lst (ms.map V.int)) := by
      refine EvP.ofL (fun H1 e1 Q' q => ?_)
      refine el_sl (ev_var rfl) eo_none (eo_some ev_c) (ex_l e1 hc) H1 (Ex.refl H1) _ fun p H2 hp e2 h2 => ?_
      exact ⟨p, _, rfl, .inl (sq_of h2), fun l hl => q l _ (fresh_back e2 hl) (e2.trans (Ex.new hl)) (by rw [upd_same, hms])⟩
    refine sr_ret (ep_lst (ep_cons (fun v H5 H6 e6 ⟨q, h5, h6, h7⟩ => ⟨q, h5, h6, e6 q _ h7⟩) cp (EvPs.of (ea_cons ev_c (ea_cons ev_c ea_nil)))) (fun vs H5 ⟨u, us, q1, _, q2⟩ => by subst q1; subst q2; exact Nat.le_of_ble_eq_true rfl) (fun vs H5 H6 e6 ⟨u, us, q1, ⟨q, h5, h6, h7⟩, q2⟩ => ⟨u, us, q1, ⟨q, h5, h6, e6 q _ h7⟩, q2⟩)) fun v H6 e6 ⟨t, vs, hv, ht, h6, u, us, q1, ⟨q, hu, hq, hq6⟩, q2⟩ => ?_
    subst q1
    subst q2
    subst hu
    subst hv
    refine k t H6 e6 ht ⟨q, ms, 0, 0, h6, hq6, fun e => ?_, lms, Int.le_refl _, by omega, Int.le_refl _⟩
    subst e
    rw [h6] at hq6
    cases ms <;> simp at hq6
/-! ### calls of the classes -/
theorem kbn_of {fd : FuncData} {ps ks : List Str} {n : Nat} {g : List Value → List Value → List Value} {gV : List V → List V → List V} (h : ∀ us ws : List Value, us.length = n → ws.length = ks.length → bindArgs fd ⟨us, ks.zip ws⟩ = pure (ps.zip (g us ws))) (hr : ∀ {vs : List V} {us : List Value} {zs : List V} {ws : List Value}, Vals vs us → Vals zs ws → Vals (gV vs zs) (g us ws)) : KBn K fd ps n ks g gV :=
  ⟨fun s us ws _ l1 l2 => BindsTo.of_eq (h us ws l1 l2), hr⟩
end
section
variable {P : Program} {w : World} {K : PySem.W.Frag} {mg : Str → Option Value} {base : Heap} {A : Ad}
/-! ### a row of drawn pairs: [_law_any(pen, n) for .. in range(m)] -/
theorem row_any {n m : Nat} {σ : L2.St} {vs : List Nat} {j : Nat} {te : TE} {D p : Addr} {b : Nat} {S : List Addr} {H3 : Hp} {Q : VK} (hm : m ≤ 1000) (hp3 : PenOk H3 p (b + m * dr n)) (hpS : p ∈ S) (hS : Here S H3) (hD : H3 D = none) (hw : ∀ x, wipe ((wipe σ vs).set j (some x)) vs = wipe σ vs)
    (hte : ∀ (i : Nat) (H' : Hp) (R : VK), spAny K n [.ref p, .int n] H' R E0 → te ((wipe σ vs).set j (some (.int (0 + i)))) H' R)
    (k : ∀ H' acc xs ys ds, PenOk H' p b → SameP p H3 H' → H' D = some (.lst acc) → acc.length = m → Prs K (hid (D :: S) H') acc xs ys ds → (∀ d ∈ ds, Small n (wB n) d) → Q (.ref D) H') :
    ∃ W : Nat → Nat → Hp → Prop, (∃ m, W 0 m (upd H3 D (.lst []))) ∧ ∀ i m' H, W i m' H →
      ((Itr 0 m).stop i H ∧ Q (.ref D) H) ∨ ((Itr 0 m).go i H ∧ ∃ Nx : Hp → Prop, (∀ H', Nx H' → ∃ m2, m2 < m' ∧ W (i + 1) m2 H') ∧ ∀ x H', (Itr 0 m).yld i H x H' → gName j x (wipe σ vs) H' fun σ2 H2 => wipe σ2 vs = wipe σ vs ∧ tYes σ2 H2 fun b H3 =>
        if b = true then te σ2 H3 fun y H4 => ∃ acc, H4 D = some (.lst acc) ∧ acc.length < sizeLine ∧ Nx (upd H4 D (.lst (acc ++ [y]))) else Nx H3) := by
  have nDp : D ≠ p := fun e => hp3.at_ (e ▸ hD)
  have mul3 : ∀ i : Nat, i < m → (m - i) * dr n = (m - (i + 1)) * dr n + dr n := fun i hi => by
    rw [show m - i = (m - (i + 1)) + 1 by omega, Nat.succ_mul]
  refine lc_range (fun i H' => PenOk H' p (b + (m - i) * dr n) ∧ SameP p H3 H' ∧ ∃ acc xs ys ds, H' D = some (.lst acc) ∧ acc.length = i ∧ Prs K (hid (D :: S) H') acc xs ys ds ∧ ∀ d ∈ ds, Small n (wB n) d) ⟨hp3.ext (Ex.new hD), SameP.of (Ex.new hD), [], [], [], [], upd_same, rfl, ⟨rfl, rfl, rfl, fun m u h => by simp at h⟩, fun d h => by simp at h⟩ (fun i H' hi h => ?_) (fun H' h => ?_)
  · obtain ⟨hp4, s4, acc, xs, ys, ds, h1, h2, h3, h4⟩ := h
    refine ⟨hw _, ?_⟩
    refine yes_if ?_
    have hS5 : Here (D :: S) H' := (samep_here s4 hp4.at_ hS).cons h1
    refine hte i H' _ ⟨p, D :: S, b + (m - (i + 1)) * dr n, rfl, List.mem_cons_of_mem _ hpS, hS5, hp4.less (by rw [mul3 i hi]; omega), fun v d H6 s6 pa sd hp6 => ?_⟩
    have s36 : SameP p H3 H6 := s4.trans s6
    obtain ⟨x, y, h7⟩ := (h3.up (samep_hid s6 (List.mem_cons_of_mem _ hpS))).snoc pa
    refine ⟨acc, s6.ob D _ nDp h1, sz_lt (by omega), hp3.mut s36 hp6 hD, s36.mut hD, acc ++ [v], xs ++ [x], ys ++ [y], ds ++ [d], upd_same, by simp [h2], ?_, fun d' hd' => ?_⟩
    · rw [hid_upd List.mem_cons_self]
      exact h7
    · rcases List.mem_append.mp hd' with h | h
      · exact h4 d' h
      · rw [List.mem_singleton.mp h]
        exact sd
  · obtain ⟨hp4, s4, acc, xs, ys, ds, h1, h2, h3, h4⟩ := h
    exact k H' acc xs ys ds (hp4.less (by omega)) s4 h1 h2 h3 h4
/-! ### papers as values -/
/-- an instance of a paper's class: its word, its parts by name -/
def PapV (K : PySem.W.Frag) (C : Addr) (wd : Str) (names : List Str) (ds : List PyData) : V → Hp → Prop := fun v H => ∃ x dx q us, v = .ref x ∧ H x = some (.ins C dx (("word", .str wd) :: ("parts", .ref q) :: names.zip us)) ∧ SqT K H q us ∧ DpAll K H us (tupdAll ds)
theorem PapV.up {C : Addr} {wd : Str} {names : List Str} {ds : List PyData} : Up (PapV K C wd names ds) := fun v H H' e ⟨x, dx, q, us, h1, h2, h4, h5⟩ => ⟨x, dx, q, us, h1, e x _ h2, ex_t e h4, DpAll.ext e h5⟩
/-- making one -/
theorem ep_make {C : Addr} {wd : Str} {names : List Str} {n : Nat} {E : XK} {t : TA} {σ : L2.St} {H : Hp} {vs : List V} {ds : List PyData} (h : EvA t σ H vs) (hl : vs.length = names.length) (hd : DpAll K H vs ds) (hc : PyData.canLayAll0 ds = true) (hn : PyData.depthAll ds + 1 ≤ n) (hw : PyData.weightAll ds ≤ 40000) :
    EvP (tMake C (spNew K C wd names n) [] E t) σ H (PapV K C wd names ds) := fun H1 e1 Q q => h H1 e1 _ fun H2 e2 x dx hx hdx ndx => by
  have hx2 : H2 x = none := hx
  have ex : Ex H2 (upd (upd H2 dx (.own x)) x (.ins C dx [])) := (Ex.new hdx).trans (Ex.new (by rw [upd_ne (Ne.symm ndx)]; exact hx))
  have nx : hid [x] (upd (upd H2 dx (.own x)) x (.ins C dx [])) = hid [x] (upd H2 dx (.own x)) := hid_upd List.mem_cons_self
  have exh : Ex H2 (hid [x] (upd (upd H2 dx (.own x)) x (.ins C dx []))) := fun b o hb => hid_at (fun z => by rw [List.mem_singleton.mp z, hx] at hb; cases hb) (ex b o hb)
  refine ⟨x, dx, vs, ds, [], by rw [List.append_nil], hl, upd_same, fun b hb => by simp at hb, DpAll.ext ((e1.trans e2).trans exh) hd, hc, hn, hw, fun qa us H' eh hlu hxi hq hda => ⟨rfl, q (.ref x) H' (e2.trans fun b o hb => ?_) ⟨x, dx, qa, us, rfl, hxi, SqT.ext hq (hid_out _), DpAll.ext (hid_out _) hda⟩⟩⟩
  have nb : b ≠ x := fun z => by rw [z, hx] at hb; cases hb
  have h1 := eh b o (by rw [hide_get nb]; exact ex b o hb)
  rw [hide_get nb] at h1
  exact h1
end
section
variable {P : Program} {w : World} {K : PySem.W.Frag} {mg : Str → Option Value} {base : Heap} {A : Ad}
/-! ### making papers by keywords, by a star; papers against each other -/
theorem made_up {H H' : Hp} {C x dx : Addr} (hx : H x = none) (hdx : H dx = none) (ndx : dx ≠ x) (eh : Ex (hide x (upd (upd H dx (.own x)) x (.ins C dx []))) (hide x H')) : Ex H H' := fun b o hb => by
  have ex : Ex H (upd (upd H dx (.own x)) x (.ins C dx [])) := (Ex.new hdx).trans (Ex.new (by rw [upd_ne (Ne.symm ndx)]; exact hx))
  have nb : b ≠ x := fun z => by rw [z, hx] at hb; cases hb
  have h1 := eh b o (by rw [hide_get nb]; exact ex b o hb)
  rw [hide_get nb] at h1
  exact h1
theorem made_at {H : Hp} {C x dx : Addr} (hx : H x = none) (hdx : H dx = none) (ndx : dx ≠ x) : Ex H (hid [x] (upd (upd H dx (.own x)) x (.ins C dx []))) := fun b o hb => by
  have ex : Ex H (upd (upd H dx (.own x)) x (.ins C dx [])) := (Ex.new hdx).trans (Ex.new (by rw [upd_ne (Ne.symm ndx)]; exact hx))
  exact hid_at (fun z => by rw [List.mem_singleton.mp z, hx] at hb; cases hb) (ex b o hb)
theorem new_at {C : Addr} {wd : Str} {names : List Str} {n : Nat} {E : XK} {H : Hp} {vs : List V} {ds : List PyData} {Q : VK} (hl : vs.length = names.length) (hd : DpAll K H vs ds) (hc : PyData.canLayAll0 ds = true) (hn : PyData.depthAll ds + 1 ≤ n) (hw : PyData.weightAll ds ≤ 40000)
    (q : ∀ v H', Ex H H' → PapV K C wd names ds v H' → Q v H') {x dx : Addr} (hx : H x = none) (hdx : H dx = none) (ndx : dx ≠ x) : spNew K C wd names n (.ref x :: vs) (upd (upd H dx (.own x)) x (.ins C dx [])) (fun v H3 => v = .non ∧ Q (.ref x) H3) E :=
  ⟨x, dx, vs, ds, [], rfl, hl, upd_same, fun b hb => by simp at hb, DpAll.ext (made_at hx hdx ndx) hd, hc, hn, hw, fun qa us H' eh hlu hxi hq hda => ⟨rfl, q (.ref x) H' (made_up hx hdx ndx eh) ⟨x, dx, qa, us, rfl, hxi, SqT.ext hq (hid_out _), DpAll.ext (hid_out _) hda⟩⟩⟩
theorem ep_makeK {C : Addr} {wd : Str} {names : List Str} {n m : Nat} {E : XK} {t : TA} {σ : L2.St} {H : Hp} {vs zs : List V} {ds : List PyData} {gV : List V → List V → List V} (h : EvA t σ H zs) (hm : zs.length = m) (hg : ∀ x : V, gV [x] zs = x :: vs) (hl : vs.length = names.length) (hd : DpAll K H vs ds) (hc : PyData.canLayAll0 ds = true) (hn : PyData.depthAll ds + 1 ≤ n) (hw : PyData.weightAll ds ≤ 40000) :
    EvP (tMakeK C 0 m (spNew K C wd names n) gV E tNil t) σ H (PapV K C wd names ds) := fun H1 e1 Q q => h H1 e1 _ fun H2 e2 => ⟨rfl, hm, fun x dx hx hdx ndx => by
  rw [hg]
  exact new_at hl (DpAll.ext (e1.trans e2) hd) hc hn hw (fun v H' e p => q v H' (e2.trans e) p) hx hdx ndx⟩
theorem ep_makeR {C : Addr} {wd : Str} {n : Nat} {E : XK} {t : TA} {σ : L2.St} {H : Hp} {vs : List V} {ds : List PyData} (cl : Cls K C) (no : ∀ f ∈ fieldNames, NoAttr K C f) (h : EvA t σ H (.str wd :: vs)) (hd : DpAll K H vs ds) (hc : PyData.canLayAll0 ds = true) (hn : PyData.depthAll ds + 1 ≤ n) (hw : PyData.weightAll ds ≤ 40000) :
    EvP (tMakeR C (spPInit K n) E t) σ H (PapV K C wd [] ds) := fun H1 e1 Q q => h H1 e1 _ fun H2 e2 x dx hx hdx ndx => by
  refine ⟨x, C, dx, wd, vs, ds, [], rfl, upd_same, cl, no, fun b hb => by simp at hb, DpAll.ext ((e1.trans e2).trans (made_at hx hdx ndx)) hd, hc, hn, hw, fun qa H' eh hxi hq => ?_⟩
  cases hq with
  | tup hs ha => exact ⟨rfl, q (.ref x) H' (e2.trans (made_up hx hdx ndx eh)) ⟨x, dx, qa, _, rfl, hxi, SqT.ext hs (hid_out _), DpAll.ext (hid_out _) ha⟩⟩
end
section
variable {P : Program} {w : World} {K : PySem.W.Frag} {mg : Str → Option Value} {base : Heap} {A : Ad}
/-! ### papers as they are read -/
theorem PapV.pap {H : Hp} {v : V} {C : Addr} {wd : Str} {names : List Str} {ds : List PyData} (p : PapV K C wd names ds v H) : ∃ a dx fs, v = .ref a ∧ H a = some (.ins C dx fs) ∧ Pap K H a C wd (.tuple (tupdAll ds)) := by
  obtain ⟨x, dx, q, us, hv, hx, hq, hd⟩ := p
  exact ⟨x, dx, _, hv, hx, ⟨dx, _, hx, rfl, .ref q, rfl, .tup hq hd⟩⟩
theorem ev_eqP {σ : L2.St} {H : Hp} {ta tb : TE} {C D : Addr} {wd wd' nm nm' : Str} {n1 n2 : List Str} {ds es : List PyData} {bf bf' : Addr} {den den' : Bool} (ha : EvP ta σ H (PapV K C wd n1 ds)) (hb : EvP tb σ H (PapV K D wd' n2 es)) (c : ClsT K A C nm bf den) (c' : ClsT K A D nm' bf' den') (nf : PySem.W.notFirst K C (.ref D) = true)
    (sd : SeqAt.shaped (.tuple (tupdAll ds)) = true) (se : SeqAt.shaped (.tuple (tupdAll es)) = true) : Ev (tOp (rEqI K A.aPEq (spPEq K A) E0) ta tb) σ H (.bl (decide (nm = nm') && (decide (wd = wd') && PyData.eqv (.tuple (tupdAll ds)) (.tuple (tupdAll es))))) := fun H1 e Q q =>
  ha H1 e _ fun u H2 e2 pu => hb H2 (e.trans e2) _ fun v H3 e3 pv => by
    obtain ⟨a, dx, fs, hu, hx, pa⟩ := (PapV.up u H2 H3 e3 pu).pap
    obtain ⟨b, dy, gs, hv, hy, pb⟩ := pv.pap
    exact ⟨a, b, C, D, dx, dy, fs, gs, hu, hv, hx, hy, c.eq, nf, a, b, C, D, nm, nm', wd, wd', bf, bf', den, den', _, _, rfl, c, c', pa, pb, sd, se, fun H4 e4 => ⟨⟨_, rfl⟩, q H4 ((e2.trans e3).trans e4)⟩⟩
theorem ev_neP {σ : L2.St} {H : Hp} {ta tb : TE} {C D : Addr} {wd wd' nm nm' : Str} {n1 n2 : List Str} {ds es : List PyData} {bf bf' : Addr} {den den' : Bool} (ha : EvP ta σ H (PapV K C wd n1 ds)) (hb : EvP tb σ H (PapV K D wd' n2 es)) (c : ClsT K A C nm bf den) (c' : ClsT K A D nm' bf' den') (nf : PySem.W.notFirst K C (.ref D) = true)
    (mo : PySem.W.mroIn K C (.type "object") = some true) (sd : SeqAt.shaped (.tuple (tupdAll ds)) = true) (se : SeqAt.shaped (.tuple (tupdAll es)) = true) : Ev (tOp (rNeI K A.aPEq (spPEq K A) E0) ta tb) σ H (.bl (!(decide (nm = nm') && (decide (wd = wd') && PyData.eqv (.tuple (tupdAll ds)) (.tuple (tupdAll es)))))) := fun H1 e Q q =>
  ha H1 e _ fun u H2 e2 pu => hb H2 (e.trans e2) _ fun v H3 e3 pv => by
    obtain ⟨a, dx, fs, hu, hx, pa⟩ := (PapV.up u H2 H3 e3 pu).pap
    obtain ⟨b, dy, gs, hv, hy, pb⟩ := pv.pap
    exact ⟨a, b, C, D, dx, dy, fs, gs, hu, hv, hx, hy, c.eq, nf, c.ne, mo, a, b, C, D, nm, nm', wd, wd', bf, bf', den, den', _, _, rfl, c, c', pa, pb, sd, se, fun H4 e4 => ⟨_, rfl, q H4 ((e2.trans e3).trans e4)⟩⟩
/-- bool(paper) -/
theorem ev_boolP {σ : L2.St} {H : Hp} {ta : TE} {a C dx bf : Addr} {fs : List (Str × V)} {b : Bool} (h : Ev ta σ H (.ref a)) (ho : H a = some (.ins C dx fs)) (hf : PySem.W.findIn K (.ref C) "__bool__" = some (some (.ref bf)))
    (hb : (bf = A.aPBool ∧ b = true) ∨ (bf = A.aDBool ∧ b = false)) : Ev (tCB (fun xs H Q => rBoolI K A.aPBool (spBool true) E0 xs H Q ∨ rBoolI K A.aDBool (spBool false) E0 xs H Q) (tCons ta tNil)) σ H (.bl b) := fun H1 e Q q =>
  h H1 e _ fun H2 e2 => by
    rcases hb with ⟨rfl, rfl⟩ | ⟨rfl, rfl⟩
    · exact .inl ⟨a, C, dx, fs, rfl, (e.trans e2) a _ ho, hf, _, rfl, ⟨_, rfl⟩, q H2 e2⟩
    · exact .inr ⟨a, C, dx, fs, rfl, (e.trans e2) a _ ho, hf, _, rfl, ⟨_, rfl⟩, q H2 e2⟩
/-! ### data as it is told -/
def EvD (K : PySem.W.Frag) (te : TE) (σ : L2.St) (H : Hp) (d : PyData) : Prop := EvP te σ H fun v H' => Dp K H' v d
def EvDs (K : PySem.W.Frag) (ta : TA) (σ : L2.St) (H : Hp) (ds : List PyData) : Prop := EvPs ta σ H fun vs H' => DpAll K H' vs ds
theorem evd_of {σ : L2.St} {H : Hp} {te : TE} {v : V} {d : PyData} (h : Ev te σ H v) (hd : Dp K H v d) : EvD K te σ H d := EvP.is h fun H1 e => Dp.ext e hd
theorem evds_nil {σ : L2.St} {H : Hp} : EvDs K tNil σ H [] := ep_nil.imp fun vs H1 _ h => by rw [h]; exact .nil
theorem evds_cons {σ : L2.St} {H : Hp} {te : TE} {ta : TA} {d : PyData} {ds : List PyData} (h : EvD K te σ H d) (hr : EvDs K ta σ H ds) : EvDs K (tCons te ta) σ H (d :: ds) := (ep_cons (P := fun v H' => Dp K H' v d) (Ps := fun vs H' => DpAll K H' vs ds) (fun v H1 H2 e p => Dp.ext e p) h hr).imp fun vs H1 _ ⟨u, us, h1, h2, h3⟩ => by
  rw [h1]
  exact .cons h2 h3
theorem evd_lst {σ : L2.St} {H : Hp} {ta : TA} {ds : List PyData} (h : EvDs K ta σ H ds) (hl : ds.length ≤ 100000) : EvD K (tLst ta) σ H (.list ds) := (ep_lst (Ps := fun vs H' => DpAll K H' vs ds) h (fun vs H1 p => by rw [DpAll.length p]; exact hl) fun vs H1 H2 e p => DpAll.ext e p).imp fun v H1 _ ⟨p, vs, h1, _, h2, h3⟩ => by
  rw [h1]
  exact .lst (sq_of h2) h3
theorem evd_tup {σ : L2.St} {H : Hp} {ta : TA} {ds : List PyData} (h : EvDs K ta σ H ds) (hl : ds.length ≤ 100000) : EvD K (tTup ta) σ H (.tuple ds) := (ep_tup (Ps := fun vs H' => DpAll K H' vs ds) h (fun vs H1 p => by rw [DpAll.length p]; exact hl) fun vs H1 H2 e p => DpAll.ext e p).imp fun v H1 _ ⟨p, vs, h1, _, h2, h3⟩ => by
  rw [h1]
  exact .tup (st_of h2) h3
theorem ev_repr {σ : L2.St} {H : Hp} {te : TE} {d : PyData} (h : EvD K te σ H d) (s1 : SeqAt.shaped d = true) (s2 : d.showable = true) (s3 : d.shown.length ≤ sizeLine) : Ev (tCB (rReprD K) (tCons te tNil)) σ H (.str d.shown) := fun H1 e Q q => h H1 e _ fun v H2 e2 p => ⟨v, d, rfl, p, s1, s2, s3, q H2 e2⟩
theorem ev_reprS {σ : L2.St} {H : Hp} {te : TE} {d : PyData} {n W : Nat} (h : EvD K te σ H d) (s : Small n W d) (hn : n ≤ 64) (hW : W ≤ 300000) : Ev (tCB (rReprD K) (tCons te tNil)) σ H (.str d.shown) := ev_repr h (s.shaped hn) s.sh (s.fits hW)
/-- a field of a paper -/
theorem evd_fld {σ : L2.St} {H : Hp} {ta : TE} {C : Addr} {wd f : Str} {names : List Str} {ds : List PyData} {d : PyData} (h : EvP ta σ H (PapV K C wd names ds)) (cl : Cls K C) (no : NoAttr K C f)
    (hf : ∀ (q : Addr) (us : List V), us.length = ds.length → ∃ (i : Nat) (u : V), ((("word" : Str), V.str wd) :: (("parts" : Str), V.ref q) :: names.zip us).lookup f = some u ∧ us[i]? = some u ∧ (tupdAll ds)[i]? = some d) : EvD K (tFld K ta f) σ H d := fun H1 e Q q => h H1 e _ fun v H2 e2 ⟨x, dx, qa, us, hv, hx, hq, hd⟩ => by
  have hl : us.length = ds.length := by rw [DpAll.length hd, tupdAll_map, List.length_map]
  obtain ⟨i, u, h1, h2, h3⟩ := hf qa us hl
  obtain ⟨d2, h4, h5⟩ := DpAll.get hd h2
  rw [h3] at h4
  cases h4
  exact ⟨x, C, dx, _, u, hv, hx, cl, no, h1, q u H2 e2 h5⟩
end
end K10

/-! ### the head's facts: an own hook; __init__s that begin with super().__init__; classes with __eq__, __bool__ of their own -/
namespace OwnL
open PySem PySem.Spec PyProof.Rows L2 He
def asO (g : Addr → Option Obj) (n : Nat) : List Addr := asD g n ++ [cStatics]
/-- an __init__ with a cell of its class: where it stands (class, __init__), qualified name, parameters, body, scope, the class whose __init__ super() finds -/
structure InitD where
  cls : Str
  sup : Str
  qual : Str
  params : Arguments
  body : List Stmt
  scope : Scope
abbrev FnY : Type := Option (Str × Str × Arguments × FuncBody × Scope × Addr × Addr)
def fnY (K : PySem.W.Frag) (p : Str × Option Str) : FnY := match K.lookup (fAd K p) with
  | some ⟨_, _, .func fd, _⟩ => some (fd.name, fd.qualname, fd.params, fd.body, fd.scope, fd.globals, fd.builtins)
  | _ => none
def InitD.at_ (d : InitD) : Str × Option Str := (d.cls, some "__init__")
def InitD.val (d : InitD) : FnY := some ("__init__", d.qual, d.params, .stmts d.body, d.scope, mainGlobals, builtinsNs)
def cellB (K : PySem.W.Frag) (cc D : Addr) : Bool := match K.lookup cc with
  | some ⟨_, _, .cell (some (.ref a)), _⟩ => decide (a = D)
  | _ => false
def closB (K : PySem.W.Frag) (D : Addr) : List (Str × Addr) → Bool
  | [q] => decide (q.1 = "__class__") && cellB K q.2 D
  | _ => false
def codeB (P : Program) (K : PySem.W.Frag) (cd : Value) (q : Str) : Bool := PySem.W.codeIn K cd q && match cd with
  | .ref a => (match K.lookup a with
    | some ⟨_, _, .fields vs, _⟩ => (match (vs[2]? : Option Value) with
      | some (.str file _) => (P.main.file : Str) == file
      | _ => false)
    | _ => false)
  | _ => false
def supB (K : PySem.W.Frag) (C f2 : Addr) : Bool := (PySem.W.clsIn K C).isSome && (decide (PySem.W.mroIn K C (.ref C) = some true) && (eqO (PySem.W.nsIn K mainGlobals "super") (some none) && (eqO (PySem.W.nsIn K cStatics "thirdparty.any") (some none) &&
  (eqO (PySem.W.ks_superIn K C C "__init__") (some (some (.ref f2))) && (decide (PySem.W.typeIn K (.ref f2) = some (.type "function")) && PySem.W.fnIn K f2)))))
def noneB : Value → Bool
  | .none => true
  | _ => false
def InitD.ok (P : Program) (K : PySem.W.Frag) (d : InitD) : Bool := supB K (ga K d.cls) (ma K (ga K d.sup) "__init__") && (match K.lookup (fAd K d.at_) with
  | some ⟨_, _, .func fd, _⟩ => codeB P K fd.code d.qual && (closB K (ga K d.cls) fd.closure && noneB fd.defaults)
  | _ => false)
theorem codeB_ok {P : Program} {K : PySem.W.Frag} {cd : Value} {q : Str} (h : codeB P K cd q = true) : ∃ cda, cd = .ref cda ∧ PySem.W.codeIn K (.ref cda) q = true ∧
    ∃ (ccl : Value) (cdd : Option Addr) (vs : Array Value) (ccs : Array (Option Value)) (file : Str) (tf : Tok), K.lookup cda = some ⟨ccl, cdd, .fields vs, ccs⟩ ∧ vs[2]? = some (.str file tf) ∧ ((P.main.file : Str) == file) = true := by
  obtain ⟨h1, h2⟩ := ba h
  cases cd with
  | ref a =>
    refine ⟨a, rfl, h1, ?_⟩
    have h3 : (match K.lookup a with
      | some ⟨_, _, .fields vs, _⟩ => (match (vs[2]? : Option Value) with
        | some (.str file _) => (P.main.file : Str) == file
        | _ => false)
      | _ => false) = true := h2
    cases e : K.lookup a with
    | none => rw [e] at h3; cases h3
    | some o =>
      obtain ⟨oc, od, dt, osl⟩ := o
      rw [e] at h3
      cases dt with
      | fields vs =>
        have h4 : (match (vs[2]? : Option Value) with
          | some (.str file _) => (P.main.file : Str) == file
          | _ => false) = true := h3
        cases e2 : vs[2]? with
        | none => rw [e2] at h4; cases h4
        | some v =>
          rw [e2] at h4
          cases v with
          | str x t => exact ⟨_, _, _, _, x, t, rfl, e2, h4⟩
          | _ => cases h4
      | _ => cases h3
  | _ => cases h2
theorem closB_ok {K : PySem.W.Frag} {D : Addr} {l : List (Str × Addr)} (h : closB K D l = true) : ∃ cc, l = ([(("__class__" : Str), cc)] : List (Str × Addr)) ∧ ∃ (cl : Value) (cld : Option Addr) (csl : Array (Option Value)), K.lookup cc = some ⟨cl, cld, .cell (some (.ref D)), csl⟩ := by
  match l, h with
  | [(x, cc)], h =>
    obtain ⟨h1, h2⟩ := ba (show (decide (x = "__class__") && cellB K cc D) = true from h)
    have ex : x = "__class__" := of_decide_eq_true h1
    subst ex
    refine ⟨cc, rfl, ?_⟩
    unfold cellB at h2
    cases e : K.lookup cc with
    | none => rw [e] at h2; cases h2
    | some o =>
      obtain ⟨oc, od, dt, osl⟩ := o
      rw [e] at h2
      cases dt with
      | cell v =>
        cases v with
        | none => cases h2
        | some v =>
          cases v with
          | ref a =>
            have ea : a = D := of_decide_eq_true h2
            subst ea
            exact ⟨_, _, _, rfl⟩
          | _ => cases h2
      | _ => cases h2
  | [], h => cases h
  | _ :: _ :: _, h => cases h
theorem InitD.fnx {P : Program} {K : PySem.W.Frag} {d : InitD} {mg : Str → Option Value} (e : fnY K d.at_ = d.val) (c : d.ok P K = true) (tp : (P.main.scope.names.lookup ("super" : Str)).isSome = false) :
    ∃ (fd : FuncData) (oc : Value) (od : Option Addr) (kV doc pm : Value) (an : Option Addr) (cda : Addr) (ct : Value) (osl : Array (Option Value)) (cc : Addr), fd = PySem.W.fnX "__init__" d.qual d.params d.body d.scope [("__class__", cc)] .none kV doc pm an (.ref cda) ct ∧
      K.lookup (fAd K d.at_) = some ⟨oc, od, .func (PySem.W.fnX "__init__" d.qual d.params d.body d.scope [("__class__", cc)] .none kV doc pm an (.ref cda) ct), osl⟩ ∧ PySem.W.codeIn K (.ref cda) d.qual = true ∧ SupFacts P K mg (ga K d.cls) (ga K d.cls) (ma K (ga K d.sup) "__init__") cda cc := by
  obtain ⟨c1, c2⟩ := ba c
  obtain ⟨s1, s2⟩ := ba c1
  obtain ⟨s2, s3⟩ := ba s2
  obtain ⟨s3, s4⟩ := ba s3
  obtain ⟨s4, s5⟩ := ba s4
  obtain ⟨s5, s6⟩ := ba s5
  obtain ⟨s6, s7⟩ := ba s6
  unfold fnY at e
  cases q : K.lookup (fAd K d.at_) with
  | none =>
    rw [q] at c2
    cases c2
  | some o =>
    obtain ⟨oc, od, dt, osl⟩ := o
    rw [q] at c2 e
    cases dt with
    | func fd =>
      obtain ⟨n1, n2, n3, n4, n5, n6, n7, n8, n9, n10, n11, n12, n13, n14, n15⟩ := fd
      have e2 : (some (n1, n2, n3, n4, n5, n6, n15) : FnY) = (some (("__init__" : Str), d.qual, d.params, FuncBody.stmts d.body, d.scope, mainGlobals, builtinsNs) : FnY) := e
      simp only [Option.some.injEq, Prod.mk.injEq] at e2
      obtain ⟨h1, h2, h3, h4, h5, h6, h7⟩ := e2
      subst h1 h2 h3 h4 h5 h6 h7
      obtain ⟨k1, k2⟩ := ba (show (codeB P K n13 d.qual && (closB K (ga K d.cls) n7 && noneB n8)) = true from c2)
      obtain ⟨k2, k3⟩ := ba k2
      obtain ⟨cda, rfl, cI, cF⟩ := codeB_ok k1
      obtain ⟨cc, rfl, cC⟩ := closB_ok k2
      cases n8 with
      | none =>
        exact ⟨_, oc, od, n9, n10, n11, n12, cda, n14, osl, cc, rfl, rfl, cI, ⟨cF, cC, Option.isSome_iff_exists.mp s1, of_decide_eq_true s2, eqO_ok s3, tp, eqO_ok s4, eqO_ok s5, of_decide_eq_true s6, s7⟩⟩
      | _ => cases k3
    | _ => cases c2
/-- a def's function as the layer wants it -/
theorem fun_of {K : PySem.W.Frag} {x qual : Str} {st : Stmt} {f : Addr} {fd : FuncData} (F : FunD K x qual (defArgs st) (defBody st) (defScope st) [] [] f fd) : L2.Fun K x qual st f fd := by
  obtain ⟨⟨oc, od, dV, kV, doc, pm, an, cdv, ct, osl, h1, h2, h3, h4, h5⟩, kp⟩ := F
  rcases h4 with ⟨_, h4⟩ | ⟨h4, _⟩
  · subst h4
    exact ⟨⟨oc, od, kV, doc, pm, an, cdv, ct, osl, h1, h2, h3⟩, kp⟩
  · exact absurd rfl h4
/-! a class's name -/
def gotB : Option PySem.W.CFound → Addr → Bool
  | some (.get (.builtin g) (.builtin a) (.ref C') (.type t)), C => decide (g = "getset_descriptor.__get__") && (decide (a = "type.__name__") && (decide (C' = C) && decide (t = "type")))
  | _, _ => false
theorem gotB_ok {r : Option PySem.W.CFound} {C : Addr} (h : gotB r C = true) : r = some (.get (.builtin "getset_descriptor.__get__") (.builtin "type.__name__") (.ref C) (.type "type")) := by
  unfold gotB at h
  split at h
  · obtain ⟨h1, h⟩ := ba h
    obtain ⟨h2, h⟩ := ba h
    obtain ⟨h3, h4⟩ := ba h
    rw [of_decide_eq_true h1, of_decide_eq_true h2, of_decide_eq_true h3, of_decide_eq_true h4]
  · cases h
def nmB (K : PySem.W.Frag) (C : Addr) (nm : Str) : Bool := match K.lookup C with
  | some o => (match ((o.slots[2]?).join : Option Value) with
    | some (.str x _) => decide (x = nm)
    | _ => false)
  | none => false
theorem nmB_ok {K : PySem.W.Frag} {C : Addr} {nm : Str} (h : nmB K C nm = true) : ∃ o t, K.lookup C = some o ∧ (o.slots[2]?).join = some (.str nm t) := by
  unfold nmB at h
  cases e : K.lookup C with
  | none => rw [e] at h; cases h
  | some o =>
    rw [e] at h
    have h' : (match ((o.slots[2]?).join : Option Value) with
      | some (.str x _) => decide (x = nm)
      | _ => false) = true := h
    cases e2 : (o.slots[2]?).join with
    | none => rw [e2] at h'; cases h'
    | some v =>
      rw [e2] at h'
      cases v with
      | str x t =>
        have ex : x = nm := of_decide_eq_true h'
        subst ex
        exact ⟨o, t, rfl, e2⟩
      | _ => cases h'
def clsNmB (K : PySem.W.Frag) (C : Addr) (nm : Str) : Bool := (PySem.W.clsIn K C).isSome && (eqO (PySem.W.findIn K (.ref C) "__getattribute__") (some (some (.builtin "object.__getattribute__"))) && (eqO (PySem.W.findIn K (.ref C) "__getattr__") (some none) &&
  (eqO (PySem.W.findIn K (.ref C) "__class__") (some (some (.builtin "object.__class__"))) && (eqO (PySem.W.specialIn K (.builtin "object.__class__") "__get__") (some (some (.builtin "getset_descriptor.__get__"))) && (decide (PySem.W.takesIn K (.builtin "object.__class__") = some true) &&
  (decide (PySem.W.mroIn K C (.type "object") = some true) && (decide (PySem.W.typeIn K (.ref C) = some (.type "type")) && (PySem.W.readsIn K C (.type "type") && (gotB (PySem.W.findCls K (.ref C) (.type "type") "__name__") C && nmB K C nm)))))))))
theorem clsNmB_ok {K : PySem.W.Frag} {C : Addr} {nm : Str} (h : clsNmB K C nm = true) : ClsNm K C nm := by
  obtain ⟨h1, h⟩ := ba h
  obtain ⟨h2, h⟩ := ba h
  obtain ⟨h3, h⟩ := ba h
  obtain ⟨h4, h⟩ := ba h
  obtain ⟨h5, h⟩ := ba h
  obtain ⟨h6, h⟩ := ba h
  obtain ⟨h7, h⟩ := ba h
  obtain ⟨h8, h⟩ := ba h
  obtain ⟨h9, h⟩ := ba h
  obtain ⟨h10, h11⟩ := ba h
  exact ⟨Option.isSome_iff_exists.mp h1, eqO_ok h2, eqO_ok h3, eqO_ok h4, eqO_ok h5, of_decide_eq_true h6, of_decide_eq_true h7, of_decide_eq_true h8, h9, gotB_ok h10, nmB_ok h11⟩
/-! the hook -/
abbrev AlX : Type := Bool × List FnW × List FnY
def obsX (P : Program) (fa : List Fa) (fn : List DefD) (fx : List InitD) (xs : List (PySem.W.Frag → Bool)) (K : PySem.W.Frag) : AlX := ((fa.all fun f => f.ok K) && ((fn.all fun d => d.ok K) && ((fx.all fun d => d.ok P K) && xs.all fun x => x K)), fn.map (fun d => fnW K d.at_), fx.map fun d => fnY K d.at_)
def valX (fn : List DefD) (fx : List InitD) : AlX := (true, fn.map DefD.val, fx.map InitD.val)
def SaysX (P : Program) (fa : List Fa) (fn : List DefD) (fx : List InitD) (xs : List (PySem.W.Frag → Bool)) (K : PySem.W.Frag) : Prop := obsX P fa fn fx xs K = valX fn fx
def obsXG (n : Nat) (P : Program) (fa : List Fa) (fn : List DefD) (fx : List InitD) (xs : List (PySem.W.Frag → Bool)) (g : Addr → Option Obj) : AlX := obsX P fa fn fx xs (frG g (asO g n))
def hookX (n : Nat) (P : Program) (fa : List Fa) (fn : List DefD) (fx : List InitD) (xs : List (PySem.W.Frag → Bool)) : PySem.W.Hook where
  α := AlX
  obs := fun s => obsXG n P fa fn fx xs s.heap.get?
  val := fun _ => valX fn fx
  says := fun _ h => ∃ K : PySem.W.Frag, K.In h ∧ SaysX P fa fn fx xs K
  of := fun _ _ e => ⟨_, frG_in, e⟩
  keeps := fun _ _ _ ⟨K, hK, c⟩ k => ⟨K, PySem.W.Frag.In.keeps hK k, c⟩
theorem obsXG_eq {n : Nat} {P : Program} {fa : List Fa} {fn : List DefD} {fx : List InitD} {xs : List (PySem.W.Frag → Bool)} {g : Addr → Option Obj} {s : Shared} (h : ∀ a, g a = s.heap.get? a) : obsXG n P fa fn fx xs g = (hookX n P fa fn fx xs).obs s := by
  have e : g = s.heap.get? := funext h
  rw [e] <;> rfl
section
variable {P : Program} {fa : List Fa} {fn : List DefD} {fx : List InitD} {xs : List (PySem.W.Frag → Bool)} {K : PySem.W.Frag}
theorem SaysX.all (c : SaysX P fa fn fx xs K) : (fa.all fun f => f.ok K) = true ∧ (fn.all fun d => d.ok K) = true ∧ (fx.all fun d => d.ok P K) = true ∧ (xs.all fun x => x K) = true := by
  have c1 : ((fa.all fun f => f.ok K) && ((fn.all fun d => d.ok K) && ((fx.all fun d => d.ok P K) && xs.all fun x => x K))) = true := congrArg (fun z : AlX => z.1) c
  obtain ⟨h1, h⟩ := ba c1
  obtain ⟨h2, h⟩ := ba h
  obtain ⟨h3, h4⟩ := ba h
  exact ⟨h1, h2, h3, h4⟩
theorem SaysX.fact (c : SaysX P fa fn fx xs K) {f : Fa} (h : f ∈ fa) : f.ok K = true := List.all_eq_true.mp c.all.1 f h
theorem SaysX.at_ (c : SaysX P fa fn fx xs K) (i : Nat) {f : Fa} (h : fa[i]? = some f := by rfl) : f.ok K = true := c.fact (List.mem_of_getElem? h)
theorem SaysX.own (c : SaysX P fa fn fx xs K) (i : Nat) {x : PySem.W.Frag → Bool} (h : xs[i]? = some x := by rfl) : x K = true := List.all_eq_true.mp c.all.2.2.2 x (List.mem_of_getElem? h)
theorem SaysX.def_ (c : SaysX P fa fn fx xs K) (i : Nat) {d : DefD} (h : fn[i]? = some d := by rfl) : ∃ fd, FunD K d.name d.qual d.params d.body d.scope (d.dvs K) (d.kws K) (fAd K d.at_) fd := by
  have e : fn.map (fun d => fnW K d.at_) = fn.map DefD.val := congrArg (fun z : AlX => z.2.1) c
  have e2 : (fn.map fun d => fnW K d.at_)[i]? = (fn.map DefD.val)[i]? := by rw [e]
  rw [List.getElem?_map, List.getElem?_map, h] at e2
  exact DefD.funD (Option.some.inj e2) (List.all_eq_true.mp c.all.2.1 d (List.mem_of_getElem? h))
theorem SaysX.init (c : SaysX P fa fn fx xs K) (i : Nat) {d : InitD} (h : fx[i]? = some d := by rfl) : fnY K d.at_ = d.val ∧ d.ok P K = true := by
  have e : fx.map (fun d => fnY K d.at_) = fx.map InitD.val := congrArg (fun z : AlX => z.2.2) c
  have e2 : (fx.map fun d => fnY K d.at_)[i]? = (fx.map InitD.val)[i]? := by rw [e]
  rw [List.getElem?_map, List.getElem?_map, h] at e2
  exact ⟨Option.some.inj e2, List.all_eq_true.mp c.all.2.2.1 d (List.mem_of_getElem? h)⟩
end
end OwnL


namespace K10
open PySem PySem.Spec PyProof.Rows L2 OwnL Evl StX
section
variable {P : Program} {w : World} {K : PySem.W.Frag} {mg : Str → Option Value} {base : Heap} {A : Ad}
/-! ### rows of papers -/
/-- values one by one as they are to be -/
def Alls : List (V → Hp → Prop) → List V → Hp → Prop
  | [], vs, _ => vs = []
  | p :: ps, vs, H => ∃ u us, vs = u :: us ∧ p u H ∧ Alls ps us H
theorem Alls.up : ∀ {ps : List (V → Hp → Prop)}, (∀ p ∈ ps, Up p) → ∀ {vs : List V} {H H' : Hp}, Ex H H' → Alls ps vs H → Alls ps vs H'
  | [], _, _, _, _, _, h => h
  | p :: ps, hu, vs, H, H', e, ⟨u, us, h1, h2, h3⟩ => ⟨u, us, h1, hu p List.mem_cons_self u H H' e h2, Alls.up (fun q hq => hu q (List.mem_cons_of_mem _ hq)) e h3⟩
theorem Alls.app : ∀ {ps qs : List (V → Hp → Prop)} {vs us : List V} {H : Hp}, Alls ps vs H → Alls qs us H → Alls (ps ++ qs) (vs ++ us) H
  | [], _, _, _, _, h, k => by cases h; exact k
  | _ :: _, _, _, _, _, ⟨u, us, h1, h2, h3⟩, k => ⟨u, us ++ _, by rw [h1]; rfl, h2, h3.app k⟩
theorem Alls.length : ∀ {ps : List (V → Hp → Prop)} {vs : List V} {H : Hp}, Alls ps vs H → vs.length = ps.length
  | [], _, _, h => by cases h; rfl
  | _ :: _, _, _, ⟨u, us, h1, _, h3⟩ => by rw [h1, List.length_cons, List.length_cons, h3.length]
theorem Alls.get : ∀ {ps : List (V → Hp → Prop)} {vs : List V} {H : Hp} {i : Nat} {p : V → Hp → Prop}, Alls ps vs H → ps[i]? = some p → ∃ v, vs[i]? = some v ∧ p v H
  | [], _, _, _, _, _, k => by simp at k
  | _ :: _, _, _, 0, _, ⟨u, us, h1, h2, _⟩, k => by cases k; exact ⟨u, by rw [h1]; rfl, h2⟩
  | _ :: _, _, _, i + 1, _, ⟨u, us, h1, _, h3⟩, k => by
    obtain ⟨v, h4, h5⟩ := h3.get (i := i) (by simpa using k)
    exact ⟨v, by rw [h1]; simpa using h4, h5⟩
theorem eas_nil {σ : L2.St} {H : Hp} : EvPs tNil σ H (Alls []) := ep_nil
theorem eas_cons {σ : L2.St} {H : Hp} {te : TE} {ta : TA} {p : V → Hp → Prop} {ps : List (V → Hp → Prop)} (hu : Up p) (h : EvP te σ H p) (hr : EvPs ta σ H (Alls ps)) : EvPs (tCons te ta) σ H (Alls (p :: ps)) := ep_cons hu h hr
/-- a list of such -/
def LstA (ps : List (V → Hp → Prop)) : V → Hp → Prop := fun v H => ∃ a vs, v = .ref a ∧ H a = some (.lst vs) ∧ Alls ps vs H
theorem LstA.up {ps : List (V → Hp → Prop)} (hu : ∀ p ∈ ps, Up p) : Up (LstA ps) := fun v H H' e ⟨a, vs, h1, h2, h3⟩ => ⟨a, vs, h1, e a _ h2, Alls.up hu e h3⟩
theorem ea_lst {σ : L2.St} {H : Hp} {ta : TA} {ps : List (V → Hp → Prop)} (hu : ∀ p ∈ ps, Up p) (h : EvPs ta σ H (Alls ps)) (hl : ps.length ≤ 1000) : EvP (tLst ta) σ H (LstA ps) := (ep_lst (Ps := Alls ps) h (fun vs H1 p => by rw [Alls.length p]; omega) fun vs H1 H2 e p => Alls.up hu e p).imp fun v H1 _ ⟨p, vs, h1, _, h2, h3⟩ => ⟨p, vs, h1, h2, h3⟩
theorem ea_cat {σ : L2.St} {H : Hp} {ta tb : TE} {ps qs : List (V → Hp → Prop)} (hp : ∀ p ∈ ps, Up p) (hq : ∀ p ∈ qs, Up p) (h : EvP ta σ H (LstA ps)) (k : EvP tb σ H (LstA qs)) (hl : ps.length + qs.length ≤ 1000) : EvP (tOp rCat ta tb) σ H (LstA (ps ++ qs)) :=
  ep_op (LstA.up hp) h k fun x y H1 e ⟨a, vs, h1, h2, h3⟩ ⟨b, us, k1, k2, k3⟩ Q q => ⟨a, b, vs, us, h1, k1, h2, k2, sz_of (by rw [← h3.length, ← k3.length] at hl; omega), fun p hn => q (.ref p) _ (Ex.new hn) ⟨p, _, rfl, upd_same, (Alls.up hp (Ex.new hn) h3).app (Alls.up hq (Ex.new hn) k3)⟩⟩
/-- a paper, its word, its parts, whether it is true -/
def Item (K : PySem.W.Frag) (C : Addr) (wd : Str) (names : List Str) (ds : List PyData) (b : Bool) : V → Hp → Prop := fun v H => ∃ t u c, v = .ref t ∧ H t = some (.tup [u, .str wd, c, .bl b]) ∧ PapV K C wd names ds u H ∧ Dp K H c (.tuple (tupdAll ds))
theorem Item.up {C : Addr} {wd : Str} {names : List Str} {ds : List PyData} {b : Bool} : Up (Item K C wd names ds b) := fun v H H' e ⟨t, u, c, h1, h2, h3, h4⟩ => ⟨t, u, c, h1, e t _ h2, PapV.up u H H' e h3, Dp.ext e h4⟩
theorem ep_item {σ : L2.St} {H : Hp} {te ts : TE} {C : Addr} {wd : Str} {names : List Str} {ds : List PyData} {b : Bool} (h : EvP te σ H (PapV K C wd names ds)) (hs : EvD K ts σ H (.tuple (tupdAll ds))) :
    EvP (tTup (tCons te (tCons (tC (.str wd)) (tCons ts (tCons (tC (.bl b)) tNil))))) σ H (Item K C wd names ds b) :=
  (ep_tup (ep_cons PapV.up h (ep_cons (P := fun v _ => v = .str wd) (fun _ _ _ _ h => h) (EvP.of ev_c) (ep_cons (P := fun v H' => Dp K H' v (.tuple (tupdAll ds))) (fun v H1 H2 e p => Dp.ext e p) hs (ep_cons (P := fun v _ => v = .bl b) (fun _ _ _ _ h => h) (EvP.of ev_c) ep_nil))))
    (fun vs H1 ⟨u, us, q1, _, u2, us2, q2, _, u3, us3, q3, _, u4, us4, q4, _, q5⟩ => by subst q1 q2 q3 q4 q5; exact Nat.le_of_ble_eq_true rfl)
    (fun vs H1 H2 e ⟨u, us, q1, p1, u2, us2, q2, p2, u3, us3, q3, p3, r⟩ => ⟨u, us, q1, PapV.up u H1 H2 e p1, u2, us2, q2, p2, u3, us3, q3, Dp.ext e p3, r⟩)).imp fun v H1 _ ⟨t, vs, h1, _, h2, u, us, q1, p1, u2, us2, q2, p2, u3, us3, q3, p3, u4, us4, q4, p4, q5⟩ => by
      subst q1 q2 q3 q4 q5 p2 p4
      exact ⟨t, u, u3, h1, h2, p1, p3⟩
end

section
variable {P : Program} {w : World} {K : PySem.W.Frag} {mg : Str → Option Value} {base : Heap} {A : Ad}
/-! ### steps of the law -/
theorem q_asgP {σ : L2.St} {H : Hp} {te : TE} {i : Nat} {tz : TS} {D : Ends} {R : V → Hp → Prop} (h : EvP te σ H R) (k : ∀ v H1, Ex H H1 → R v H1 → tz D (σ.set i (some v)) H1) : tSeq (tAsg te (gName i)) tz D σ H := sr_asg (D := { D with nx := tz D }) h k
theorem q_asgLT {σ : L2.St} {H : Hp} {te : TE} {g : TG} {tz : TS} {D : Ends} {xs : List V} (h : EvL te σ H xs) (k : ∀ p H1, H p = none → Ex H H1 → H1 p = some (.lst xs) → g (.ref p) σ H1 (tz D)) : tSeq (tAsg te g) tz D σ H := h H (Ex.refl H) _ k
theorem ep_var {σ : L2.St} {H : Hp} {i : Nat} {v : V} {R : V → Hp → Prop} (up : Up R) (h : σ[i]? = some (some v)) (r : R v H) : EvP (tVar i) σ H R := EvP.is (ev_var h) fun H1 e => up v H H1 e r
theorem ep_ixL {σ : L2.St} {H : Hp} {te : TE} {ps : List (V → Hp → Prop)} {p : V → Hp → Prop} {j : Nat} {i : Int} (h : EvP te σ H (LstA ps)) (hi : i = (j : Int)) (hj : ps[j]? = some p) : EvP (tOp (rIxL K) te (tC (.int i))) σ H p := fun H1 e Q q => h H1 e _ fun v H2 e2 ⟨a, vs, hv, ha, hs⟩ => by
  obtain ⟨u, hu, pu⟩ := hs.get hj
  subst hi
  exact ⟨a, vs, j, u, hv, rfl, sq_of ha, atI_nat hu, q u H2 e2 pu⟩
theorem ep_ixItem {σ : L2.St} {H : Hp} {te : TE} {C : Addr} {wd : Str} {names : List Str} {ds : List PyData} {b : Bool} (h : EvP te σ H (Item K C wd names ds b)) : EvP (tOp (rIxT K) te (tC (.int 0))) σ H (PapV K C wd names ds) := fun H1 e Q q => h H1 e _ fun v H2 e2 ⟨t, u, c, hv, ht, hp, hd⟩ =>
  ⟨t, _, 0, u, hv, rfl, st_of ht, rfl, q u H2 e2 hp⟩
/-- due[:n] -/
theorem evd_sl {σ : L2.St} {H : Hp} {te : TE} {t : Addr} {vs ws : List V} {n : Int} {es : List PyData} (h : Ev te σ H (.ref t)) (ht : SqT K H t vs) (hc : cutV vs none (some n) = ws) (hw : ¬ (HT.sIx vs.length 0 none = 0 ∧ HT.sIx vs.length vs.length (some n) = vs.length)) (hd : DpAll K H ws es) :
    EvD K (tSl (rSlT K) te tNoPart (tPart (tC (.int n)))) σ H (.tuple es) := fun H1 e Q q => h H1 e _ fun H2 e2 =>
  ⟨n, rfl, t, vs, rfl, ex_t (e.trans e2) ht, hw, fun p hp => q (.ref p) _ (e2.trans (Ex.new hp)) (.tup (st_of (by rw [hc]; exact upd_same)) (DpAll.ext ((e.trans e2).trans (Ex.new hp)) hd))⟩
/-- a paper's row, as the law looks at it -/
def ITm (K : PySem.W.Frag) (A : Ad) : V → Hp → Prop := fun v H => ∃ C wd names ds b nm bf, Item K C wd names ds b v H ∧ ClsT K A C nm bf (!b) ∧ ((bf = A.aPBool ∧ b = true) ∨ (bf = A.aDBool ∧ b = false)) ∧ Small 64 300000 (.list [.str wd, .tuple (tupdAll ds), .bool b, .bool (!b)])
theorem alls_all {R : V → Hp → Prop} : ∀ {ps : List (V → Hp → Prop)} {vs : List V} {H : Hp}, Alls ps vs H → (∀ p ∈ ps, ∀ v H, p v H → R v H) → ∀ u ∈ vs, R u H
  | [], _, _, h, _, u, hu => by cases h; cases hu
  | p :: ps, _, _, ⟨x, xs, e, hx, hr⟩, k, u, hu => by
    subst e
    rcases List.mem_cons.mp hu with z | z
    · subst z
      exact k p List.mem_cons_self _ _ hx
    · exact alls_all hr (fun q hq => k q (List.mem_cons_of_mem _ hq)) u z
theorem fa_nil {α : Type _} {R : α → Prop} : ∀ p ∈ ([] : List α), R p := fun _ h => nomatch h
theorem fa_cons {α : Type _} {R : α → Prop} {p : α} {ps : List α} (h : R p) (k : ∀ q ∈ ps, R q) : ∀ q ∈ p :: ps, R q := fun q hq => by
  rcases List.mem_cons.mp hq with z | z
  · subst z; exact h
  · exact k q z
theorem fa_app {α : Type _} {R : α → Prop} {ps qs : List α} (h : ∀ q ∈ ps, R q) (k : ∀ q ∈ qs, R q) : ∀ q ∈ ps ++ qs, R q := fun q hq => (List.mem_append.mp hq).elim (h q) (k q)
/-- over a list that stays, no item passes the tests (the slots of a turn of any kind) -/
theorem el_lcNo {σ : L2.St} {H : Hp} {a : Addr} {ls : List V} {tl te2 : TE} {g : TG} {t : TT} {vs : List Nat} (hl : Ev tl σ H (.ref a)) (hs : SqL K H a ls)
    (h : ∀ (i : Nat) (u : V) H1, ls[i]? = some u → Ex H H1 → ∃ s : L2.St, wipe s vs = wipe σ vs ∧ (∀ Q : L2.St → Hp → Prop, Q s H1 → g u (wipe σ vs) H1 Q) ∧ EvT t s H1 false) : EvL (tLc (iList K tl) g t te2 vs) σ H [] := fun H1 e1 Q q => hl H1 e1 _ fun H2 e2 =>
  ⟨a, rfl, ⟨ls, ex_l (e1.trans e2) hs⟩, fun D hD => lc_it (walk_list (K := K) (a := a) (xs := ls)) (fun _ H' => Ex H2 H' ∧ H' D = some (.lst [])) ⟨Ex.new hD, upd_same⟩ (fun i H' _ p => ex_l ((e1.trans e2).trans p.1) hs) (fun i x H' H3 hi p y => by
    obtain ⟨y1, y2⟩ := y
    subst y1
    have e3 := (e1.trans e2).trans p.1
    obtain ⟨s, s1, s2, s3⟩ := h i x H3 y2 e3
    exact s2 _ ⟨s1, s3 H3 (Ex.refl H3) _ fun H4 e4 => iteF ⟨p.1.trans e4, e4 D _ p.2⟩⟩) fun H' p => q D H' (fresh_back e2 hD) (e2.trans p.1) p.2⟩
theorem rv_neD {H : Hp} {x y : V} {d e : PyData} (hd : Dp K H x d) (he : Dp K H y e) (sd : SeqAt.shaped d = true) (se : SeqAt.shaped e = true) : RV (rNeD K) x y H (.bl (!PyData.eqv d e)) := fun H1 up Q q =>
  ⟨d, e, Dp.ext up hd, Dp.ext up he, sd, se, q H1 (Ex.refl H1)⟩
/-- repr(..) != repr(..) of the same -/
theorem et_same {σ : L2.St} {H : Hp} {te tf : TE} {d : PyData} {n W : Nat} (h : EvD K te σ H d) (k : EvD K tf σ H d) (s : Small n W d) (hn : n ≤ 64) (hW : W ≤ 300000) : EvT (tTest (tOp rNe (tCB (rReprD K) (tCons te tNil)) (tCB (rReprD K) (tCons tf tNil)))) σ H false :=
  et_is (et_test (ev_op (ev_reprS h s hn hW) (ev_reprS k s hn hW) (rv_ne rfl))) (by simp)
theorem ev_sameR {σ : L2.St} {H : Hp} {te tf : TE} {d : PyData} {n W : Nat} (h : EvD K te σ H d) (k : EvD K tf σ H d) (s : Small n W d) (hn : n ≤ 64) (hW : W ≤ 300000) : Ev (tOp rEq (tCB (rReprD K) (tCons te tNil)) (tCB (rReprD K) (tCons tf tNil))) σ H (.bl true) :=
  ev_is (ev_op (ev_reprS h s hn hW) (ev_reprS k s hn hW) (rv_eq rfl)) (by simp)
/-- making a paper of any data -/
theorem ep_makeD {C : Addr} {wd : Str} {names : List Str} {n : Nat} {E : XK} {t : TA} {σ : L2.St} {H : Hp} {ds : List PyData} (h : EvDs K t σ H ds) (hl : ds.length = names.length) (hc : PyData.canLayAll0 ds = true) (hn : PyData.depthAll ds + 1 ≤ n) (hw : PyData.weightAll ds ≤ 40000) :
    EvP (tMake C (spNew K C wd names n) [] E t) σ H (PapV K C wd names ds) := fun H1 e1 Q q => h H1 e1 _ fun vs H2 e2 hd x dx hx hdx ndx => by
  have l : vs.length = names.length := by rw [DpAll.length hd]; exact hl
  rw [List.append_nil]
  exact new_at l hd hc hn hw (fun v H' e p => q v H' (e2.trans e) p) hx hdx ndx
theorem smalls_tupd {n W : Nat} : ∀ {ds : List PyData}, Smalls n W ds → Smalls n W (tupdAll ds)
  | _, .nil => .nil
  | _, .cons s r => .cons s.tupd (smalls_tupd r)
theorem Smalls.mono {n m W V : Nat} (h : n ≤ m) (k : W ≤ V) : ∀ {ds : List PyData}, Smalls n W ds → Smalls m V ds
  | _, .nil => .nil
  | _, .cons s r => .cons (s.mono h k) (Smalls.mono h k r)
/-- enough for a paper -/
theorem mk_ok {ds : List PyData} (s : Smalls 3 3819 ds) (hl : ds.length ≤ 3) : PyData.canLayAll0 ds = true ∧ PyData.depthAll ds + 1 ≤ 5 ∧ PyData.weightAll ds ≤ 40000 := by
  obtain ⟨h1, h2, h3, _⟩ := s.all
  have : ds.length * (3819 + 1) ≤ 3 * (3819 + 1) := Nat.mul_le_mul_right _ hl
  exact ⟨h3, by omega, by omega⟩
theorem row_small {wd : Str} {ds : List PyData} {b : Bool} (hw : Small 0 200 (.str wd)) (s : Smalls 3 3819 ds) (hl : ds.length ≤ 3) : Small 64 300000 (.list [.str wd, .tuple (tupdAll ds), .bool b, .bool (!b)]) := by
  have t : Small 4 11460 (.tuple (tupdAll ds)) := (smalls_tupd s).tuple (by
    rw [tupdAll_map, List.length_map]
    exact Nat.mul_le_mul_right _ hl)
  have bb : ∀ c : Bool, Small 4 11460 (.bool c) := fun c => by cases c <;> exact ⟨by decide +kernel, by decide +kernel, rfl, rfl, by decide +kernel⟩
  exact ((Smalls.cons (hw.mono (by decide) (by decide)) (.cons t (.cons (bb b) (.cons (bb (!b)) .nil)))).list (n := 4) (V := 45844) (by show 4 * (11460 + 1) ≤ 45844; decide)).mono (by decide) (by decide)
theorem word_ok : ((["ends", "comes", "never", "back", "kept", "deep", "bottomless", "sound", "loses", "outs", "odd"] : List Str).all fun x => decide ((PyData.str x).depth ≤ 0) && decide ((PyData.str x).weight ≤ 200) && (PyData.str x).canLay0 && (PyData.str x).showable && (PyData.str x).leavesShort 44) = true := by decide +kernel
theorem word_small {x : Str} (h : x ∈ (["ends", "comes", "never", "back", "kept", "deep", "bottomless", "sound", "loses", "outs", "odd"] : List Str)) : Small 0 200 (.str x) := by
  have h1 := List.all_eq_true.mp word_ok x h
  simp only [Bool.and_eq_true, decide_eq_true_eq] at h1
  exact ⟨h1.1.1.1.1, h1.1.1.1.2, h1.1.1.2, h1.1.2, h1.2⟩
theorem par_shaped {ds : List PyData} (s : Smalls 3 3819 ds) (hl : ds.length ≤ 3) : SeqAt.shaped (.tuple (tupdAll ds)) = true := by
  have t : Small 4 11460 (.tuple (tupdAll ds)) := (smalls_tupd s).tuple (by
    rw [tupdAll_map, List.length_map]
    exact Nat.mul_le_mul_right _ hl)
  exact t.shaped (by decide)
theorem ne5 (d : PyData) : PyData.eqv (tupd d) (.tuple [tupd d, .int 5]) = false := by
  cases h : PyData.eqv (tupd d) (.tuple [tupd d, .int 5]) with
  | false => rfl
  | true =>
    exfalso
    have := eqv_depth _ _ h
    simp only [PyData.depth, PyData.depthAll] at this
    omega
theorem mk_ok5 {ds : List PyData} (s : Smalls 4 8000 ds) (hl : ds.length ≤ 3) : PyData.canLayAll0 ds = true ∧ PyData.depthAll ds + 1 ≤ 5 ∧ PyData.weightAll ds ≤ 40000 := by
  obtain ⟨h1, h2, h3, _⟩ := s.all
  have : ds.length * (8000 + 1) ≤ 3 * (8000 + 1) := Nat.mul_le_mul_right _ hl
  exact ⟨h3, by omega, by omega⟩
theorem par_shaped5 {ds : List PyData} (s : Smalls 4 8000 ds) (hl : ds.length ≤ 3) : SeqAt.shaped (.tuple (tupdAll ds)) = true := by
  have t : Small 5 24003 (.tuple (tupdAll ds)) := (smalls_tupd s).tuple (by
    rw [tupdAll_map, List.length_map]
    exact Nat.mul_le_mul_right _ hl)
  exact t.shaped (by decide)
theorem pair5 {d : PyData} (s : Small 3 3819 d) : Small 4 8000 (.tuple [d, .int 5]) := (Smalls.cons s (.cons (Small.mono (n := 0) (W := 200) ⟨by decide +kernel, by decide +kernel, rfl, rfl, by decide +kernel⟩ (by decide) (by decide)) .nil)).tuple (by show 2 * (3819 + 1) ≤ 8000; decide)
theorem one5 (d : PyData) : PyData.eqv (.tuple (tupdAll [d])) (.tuple (tupdAll [.tuple [d, .int 5]])) = false := by
  simp only [tupdAll, tupd, PyData.eqv, PyData.eqvAll, ne5, Bool.false_and]
theorem two5 (c d : PyData) : PyData.eqv (.tuple (tupdAll [c, d])) (.tuple (tupdAll [c, .tuple [d, .int 5]])) = false := by
  simp only [tupdAll, tupd, PyData.eqv, PyData.eqvAll, ne5, Bool.false_and, Bool.and_false]
/-! ### rows of picks -/
theorem row_pick {L : List V} {m : Nat} {σ : L2.St} {vs : List Nat} {j : Nat} {te : TE} {D p : Addr} {b : Nat} {H3 : Hp} {Q : VK} (hm : m ≤ 1000) (hp3 : PenOk H3 p (b + m)) (hD : H3 D = none) (hw : ∀ x, wipe ((wipe σ vs).set j (some x)) vs = wipe σ vs) (h0 : 0 < L.length) (h1 : L.length < 1000000)
    (hte : ∀ (i : Nat) (H' : Hp) (R : VK), (∀ l, H' l = none → spPick K [.ref p, .ref l] (upd H' l (.lst L)) R E0) → te ((wipe σ vs).set j (some (.int (0 + i)))) H' R)
    (k : ∀ H' acc, PenOk H' p b → SameP p H3 H' → H' D = some (.lst acc) → acc.length = m → (∀ u ∈ acc, u ∈ L) → Q (.ref D) H') :
    ∃ W : Nat → Nat → Hp → Prop, (∃ m, W 0 m (upd H3 D (.lst []))) ∧ ∀ i m' H, W i m' H →
      ((Itr 0 m).stop i H ∧ Q (.ref D) H) ∨ ((Itr 0 m).go i H ∧ ∃ Nx : Hp → Prop, (∀ H', Nx H' → ∃ m2, m2 < m' ∧ W (i + 1) m2 H') ∧ ∀ x H', (Itr 0 m).yld i H x H' → gName j x (wipe σ vs) H' fun σ2 H2 => wipe σ2 vs = wipe σ vs ∧ tYes σ2 H2 fun b H3 =>
        if b = true then te σ2 H3 fun y H4 => ∃ acc, H4 D = some (.lst acc) ∧ acc.length < sizeLine ∧ Nx (upd H4 D (.lst (acc ++ [y]))) else Nx H3) := by
  have nDp : D ≠ p := fun e => hp3.at_ (e ▸ hD)
  refine lc_range (fun i H' => PenOk H' p (b + (m - i)) ∧ SameP p H3 H' ∧ ∃ acc, H' D = some (.lst acc) ∧ acc.length = i ∧ ∀ u ∈ acc, u ∈ L) ⟨hp3.ext (Ex.new hD), SameP.of (Ex.new hD), [], upd_same, rfl, fun u h => by simp at h⟩ (fun i H' hi h => ?_) (fun H' h => ?_)
  · obtain ⟨hp4, s4, acc, q1, q2, q3⟩ := h
    refine ⟨hw _, ?_⟩
    refine yes_if ?_
    refine hte i H' _ fun l hl => ?_
    have pl : l ≠ p := fun e => hp4.at_ (e ▸ hl)
    refine ⟨p, l, L, b + (m - (i + 1)), rfl, .inl (SqL.of (by rw [hide_get pl]; exact upd_same)), h0, h1, (hp4.ext (Ex.new hl)).less (by omega), fun n v H6 hv s6 hp6 => ?_⟩
    have s46 : SameP p H' H6 := (SameP.of (Ex.new hl)).trans s6
    have s36 : SameP p H3 H6 := s4.trans s46
    refine ⟨acc, s46.ob D _ nDp q1, sz_lt (by omega), hp3.mut s36 hp6 hD, s36.mut hD, acc ++ [v], upd_same, by simp [q2], fun u hu => ?_⟩
    rcases List.mem_append.mp hu with h | h
    · exact q3 u h
    · rw [List.mem_singleton.mp h]
      exact List.mem_of_getElem? hv
  · obtain ⟨hp4, s4, acc, q1, q2, q3⟩ := h
    exact k H' acc (hp4.less (by omega)) s4 q1 q2 q3
theorem q_asgQ {σ : L2.St} {H : Hp} {te : TE} {i : Nat} {tz : TS} {D : Ends} (h : te σ H fun x H1 => tz D (σ.set i (some x)) H1) : tSeq (tAsg te (gName i)) tz D σ H := h
theorem lc_any {n m : Nat} {σ : L2.St} {vs : List Nat} {j : Nat} {te : TE} {ta : TA} {p : Addr} {b : Nat} {S : List Addr} {H3 : Hp} {Q : VK} (hn : EvA ta σ H3 [.int m]) (hm : m ≤ 1000) (hp3 : PenOk H3 p (b + m * dr n)) (hpS : p ∈ S) (hS : Here S H3) (hw : ∀ x, wipe ((wipe σ vs).set j (some x)) vs = wipe σ vs)
    (hte : ∀ (i : Nat) (H' : Hp) (R : VK), spAny K n [.ref p, .int n] H' R E0 → te ((wipe σ vs).set j (some (.int (0 + i)))) H' R)
    (k : ∀ D H' acc xs ys ds, PenOk H' p b → SameP p H3 H' → H' D = some (.lst acc) → acc.length = m → Prs K (hid (D :: S) H') acc xs ys ds → (∀ d ∈ ds, Small n (wB n) d) → Q (.ref D) H') : tLc (iRng1 ta) (gName j) tYes te vs σ H3 Q :=
  hn H3 (Ex.refl H3) _ fun H4 e4 => ⟨m, rfl, by omega, by omega, fun D hD => row_any (Q := Q) hm (hp3.ext e4) hpS (hS.up e4) hD hw hte fun H' acc xs ys ds a1 a2 a3 a4 a5 a6 => k D H' acc xs ys ds a1 ((SameP.of e4).trans a2) a3 a4 a5 a6⟩
theorem lc_pick {L : List V} {c : Int} {i : Nat} {σ : L2.St} {vs : List Nat} {j : Nat} {te : TE} {p : Addr} {b : Nat} {H : Hp} {Q : VK} {E : XK} (hi : σ[i]? = some (some (.ref p))) (c0 : 0 < c) (c1 : c ≤ 1000) (hp3 : PenOk H p (b + c.toNat + 1)) (hw : ∀ x, wipe ((wipe σ vs).set j (some x)) vs = wipe σ vs) (h0 : 0 < L.length) (h1 : L.length < 1000000)
    (hte : ∀ (i : Nat) (H' : Hp) (R : VK), (∀ l, H' l = none → spPick K [.ref p, .ref l] (upd H' l (.lst L)) R E0) → te ((wipe σ vs).set j (some (.int (0 + i)))) H' R)
    (k : ∀ D H' acc, PenOk H' p b → SameP p H H' → H' D = some (.lst acc) → acc.length < c.toNat → (∀ u ∈ acc, u ∈ L) → Q (.ref D) H') : tLc (iRng1 (tCons (tCall spDraw [] E (tCons (tVar i) (tCons (tC (.int c)) tNil))) tNil)) (gName j) tYes te vs σ H Q :=
  ⟨_, hi, p, c, b + c.toNat, rfl, c0, by omega, hp3, fun r H1 r0 r1 s1 hp1 => ⟨r, rfl, by omega, by omega, fun D hD => row_pick (Q := Q) (b := b) (m := r.toNat) (by omega) (hp1.less (by omega)) hD hw h0 h1 hte fun H' acc a1 a2 a3 a4 a5 => k D H' acc a1 (s1.trans a2) a3 (by omega) a5⟩⟩
theorem sum_le1 : ∀ {ys : List Str}, (∀ y ∈ ys, y.length ≤ 1) → (ys.map (·.length)).sum ≤ ys.length
  | [], _ => Nat.le_refl _
  | y :: ys, h => by
    have h1 := h y List.mem_cons_self
    have h2 := sum_le1 (ys := ys) fun z hz => h z (List.mem_cons_of_mem _ hz)
    simp only [List.map_cons, List.sum_cons, List.length_cons]
    omega
theorem eu_tupV {σ : L2.St} {H : Hp} {te : TE} {a : Addr} {ls : List V} (h : Ev te σ H (.ref a)) (hs : SqL K H a ls) : EvU (tCB (rTupS K) (tCons te tNil)) σ H ls := fun H1 e Q q =>
  h H1 e _ fun H2 e2 => ⟨a, ls, rfl, .inl ⟨ex_l (e.trans e2) hs, fun l hl => q l _ (fresh_back e2 hl) (e2.trans (Ex.new hl)) upd_same⟩⟩
theorem inB_numB (d : PyData) : inB d 0 1 = numB d 2 := by
  cases d <;> simp only [inB, numB]
  rename_i i
  congr 1
  exact decide_eq_decide.mpr (by omega)
theorem dp_ones {H : Hp} {α : Type} : ∀ l : List α, DpAll K H (l.map fun _ => V.int 1) (l.map fun _ => PyData.int 1)
  | [] => .nil
  | _ :: r => .cons (.int 1) (dp_ones r)
theorem canLay_ones {α : Type} : ∀ l : List α, PyData.canLayAll0 (l.map fun _ => PyData.int 1) = true
  | [] => rfl
  | _ :: r => by
    have := canLay_ones r
    simp only [List.map_cons, PyData.canLayAll0, PyData.canLay0, this, Bool.and_self]
theorem depth_ones {α : Type} : ∀ l : List α, PyData.depthAll (l.map fun _ => PyData.int 1) = 0
  | [] => rfl
  | _ :: r => by
    have := depth_ones r
    simp only [List.map_cons, PyData.depthAll, PyData.depth, this, Nat.max_self]
theorem shaped_ones {α : Type} (l : List α) : SeqAt.shaped (.list (l.map fun _ => PyData.int 1)) = true := by
  have h1 := canLay_ones l
  have h2 := depth_ones l
  simp only [SeqAt.shaped, PyData.canLay0, PyData.depth, h1, h2, Bool.true_and]
  decide
theorem all_range (xs : List Str) (g : Str → Bool) : ((List.range xs.length).all fun i => g (xs.getD i Str.empty)) = xs.all g := by
  have e : xs.map g = (List.range xs.length).map fun i => g (xs.getD i Str.empty) := by
    refine List.ext_getElem (by simp) fun i h1 h2 => ?_
    have hi : i < xs.length := by simpa using h1
    simp [List.getElem?_eq_getElem hi]
  have e1 : xs.all g = (xs.map g).all id := by rw [List.all_map]; rfl
  rw [e1, e, List.all_map]
  rfl
theorem small_bool (b : Bool) : Small 0 200 (.bool b) := by cases b <;> exact ⟨by decide +kernel, by decide +kernel, rfl, rfl, by decide +kernel⟩
/-- the conclusion of the law: names -/
theorem names3 {xs : List Str} (h : xs.length ≤ 3) : namesB xs 3 = (xs.all nameB && decide (many xs.reverse = xs.length)) := by
  unfold namesB
  have e : decide ((3 : Int) < (xs.length : Int)) = false := decide_eq_false (by omega)
  rw [e, Bool.false_or, Bool.not_not]
/-- values that are all among some texts -/
theorem strs_of {L : List Str} : ∀ {acc : List V}, (∀ u ∈ acc, u ∈ L.map V.str) → ∃ xs : List Str, acc = xs.map V.str ∧ ∀ x ∈ xs, x ∈ L
  | [], _ => ⟨[], rfl, fun x h => by simp at h⟩
  | u :: acc, h => by
    obtain ⟨xs, e, hx⟩ := strs_of (acc := acc) fun v hv => h v (List.mem_cons_of_mem _ hv)
    obtain ⟨x, hxL, rfl⟩ := List.mem_map.mp (h u List.mem_cons_self)
    exact ⟨x :: xs, by rw [e]; rfl, fun y hy => by
      rcases List.mem_cons.mp hy with z | z
      · rw [z]; exact hxL
      · exact hx y z⟩
theorem joinL_ok {N : Nat} : ∀ ps : List (List Nat), (∀ p ∈ ps, p.length ≤ 1 ∧ ∀ c ∈ p, c < N) → (TL.joinL [] ps).length ≤ ps.length ∧ ∀ c ∈ TL.joinL [] ps, c < N
  | [], _ => ⟨Nat.le_refl _, fun c h => by simp [TL.joinL] at h⟩
  | [p], h => by
    have := h p List.mem_cons_self
    exact ⟨by simpa [TL.joinL] using this.1, fun c hc => this.2 c (by simpa [TL.joinL] using hc)⟩
  | p :: q :: r, h => by
    have ih := joinL_ok (q :: r) fun x hx => h x (List.mem_cons_of_mem _ hx)
    have hp := h p List.mem_cons_self
    have e : TL.joinL [] (p :: q :: r) = p ++ TL.joinL [] (q :: r) := rfl
    rw [e]
    refine ⟨by rw [List.length_append, List.length_cons]; omega, fun c hc => ?_⟩
    rcases List.mem_append.mp hc with z | z
    · exact hp.2 c z
    · exact ih.2 c z
theorem strOk_iff {x : Str} : PyData.strOk x = true ↔ ∀ c ∈ x.cps.toList, c < 0x110000 := by
  unfold PyData.strOk
  simp
  exact ⟨fun h c hc => by
    obtain ⟨i, hi, rfl⟩ := Array.mem_iff_getElem.mp hc
    exact h i hi, fun h i hi => h _ (Array.getElem_mem hi)⟩
theorem join_ok {ys : List Str} (h : ∀ y ∈ ys, y.length ≤ 1 ∧ PyData.strOk y = true) : (Txt.join "" ys).length ≤ ys.length ∧ PyData.strOk (Txt.join "" ys) = true := by
  have j := joinL_ok (N := 0x110000) (ys.map TL.tl) fun p hp => by
    obtain ⟨y, hy, rfl⟩ := List.mem_map.mp hp
    have := h y hy
    exact ⟨by rw [← TL.len_tl]; exact this.1, strOk_iff.mp this.2⟩
  have e : TL.tl (Txt.join "" ys) = TL.joinL [] (ys.map TL.tl) := by
    rw [TL.join_eq, TL.tl_join]
    rfl
  rw [TL.len_tl, strOk_iff]
  show (TL.tl (Txt.join "" ys)).length ≤ ys.length ∧ ∀ c ∈ TL.tl (Txt.join "" ys), c < 0x110000
  rw [e]
  rw [List.length_map] at j
  exact j
end

structure C10 (P : Program) (K : PySem.W.Frag) (mg : Str → Option Value) (A : Ad) where
  fdBack : FuncData
  xBack : FunX P K mg A.aBackI A.aPInit A.cBack "Back.__init__" sBackI fdBack
  kBack : Mk K A.cBack A.aBackI
  tBack : ClsT K A A.cBack "Back" A.aPBool false
  fdKept : FuncData
  xKept : FunX P K mg A.aKeptI A.aPInit A.cKept "Kept.__init__" sKeptI fdKept
  kKept : Mk K A.cKept A.aKeptI
  tKept : ClsT K A A.cKept "Kept" A.aDBool true
  fdDeep : FuncData
  xDeep : FunX P K mg A.aDeepI A.aPInit A.cDeep "Deep.__init__" sDeepI fdDeep
  kDeep : Mk K A.cDeep A.aDeepI
  tDeep : ClsT K A A.cDeep "Deep" A.aPBool false
  fdBottomless : FuncData
  xBottomless : FunX P K mg A.aBottomlessI A.aPInit A.cBottomless "Bottomless.__init__" sBottomlessI fdBottomless
  kBottomless : Mk K A.cBottomless A.aBottomlessI
  tBottomless : ClsT K A A.cBottomless "Bottomless" A.aDBool true
  fdEnds : FuncData
  xEnds : FunX P K mg A.aEndsI A.aPInit A.cEnds "Ends.__init__" sEndsI fdEnds
  kEnds : Mk K A.cEnds A.aEndsI
  tEnds : ClsT K A A.cEnds "Ends" A.aPBool false
  fdComes : FuncData
  xComes : FunX P K mg A.aComesI A.aPInit A.cComes "Comes.__init__" sComesI fdComes
  kComes : Mk K A.cComes A.aComesI
  tComes : ClsT K A A.cComes "Comes" A.aPBool false
  fdNever : FuncData
  xNever : FunX P K mg A.aNeverI A.aPInit A.cNever "Never.__init__" sNeverI fdNever
  kNever : Mk K A.cNever A.aNeverI
  tNever : ClsT K A A.cNever "Never" A.aDBool true
  fdSound : FuncData
  xSound : FunX P K mg A.aSoundI A.aPInit A.cSound "Sound.__init__" sSoundI fdSound
  kSound : Mk K A.cSound A.aSoundI
  tSound : ClsT K A A.cSound "Sound" A.aPBool false
  fdLoses : FuncData
  xLoses : FunX P K mg A.aLosesI A.aPInit A.cLoses "Loses.__init__" sLosesI fdLoses
  kLoses : Mk K A.cLoses A.aLosesI
  tLoses : ClsT K A A.cLoses "Loses" A.aDBool true
  fdOuts : FuncData
  xOuts : FunX P K mg A.aOutsI A.aPInit A.cOuts "Outs.__init__" sOutsI fdOuts
  kOuts : Mk K A.cOuts A.aOutsI
  tOuts : ClsT K A A.cOuts "Outs" A.aDBool true
  kPaper : Mk K A.cPaper A.aPInit
  tPaper : ClsT K A A.cPaper "Paper" A.aPBool false
  kDenial : Mk K A.cDenial A.aPInit
  tDenial : ClsT K A A.cDenial "Denial" A.aDBool true
  nEndsEnds : PySem.W.notFirst K A.cEnds (.ref A.cEnds) = true
  nKeptKept : PySem.W.notFirst K A.cKept (.ref A.cKept) = true
  nEndsComes : PySem.W.notFirst K A.cEnds (.ref A.cComes) = true
  nEndsPaper : PySem.W.notFirst K A.cEnds (.ref A.cPaper) = true
  moEnds : PySem.W.mroIn K A.cEnds (.type "object") = some true
  moKept : PySem.W.mroIn K A.cKept (.type "object") = some true
  fnPEq : PySem.W.isFn K (.ref A.aPEq) = true
  fnPBool : PySem.W.isFn K (.ref A.aPBool) = true
  fnDBool : PySem.W.isFn K (.ref A.aDBool) = true

section
variable {P : Program} {w : World} {K : PySem.W.Frag} {mg : Str → Option Value} {base : Heap} {A : Ad}
theorem vals_rev : ∀ {vs : List V} {us : List Value}, Vals vs us → Vals vs.reverse us.reverse
  | _, _, .nil => .nil
  | _, _, .cons r rr => by
    rw [List.reverse_cons, List.reverse_cons]
    exact (vals_rev rr).append (.cons r .nil)
def spLaw (K : PySem.W.Frag) : Sp := fun vs H Q _ => ∃ (a : Addr) (ns : List Int), vs = [.ref a] ∧ SqL K H a (ns.map V.int) ∧ ∀ H', Q (.bl true) H'
theorem ok_law (F : F10 K A) (T : T10 mg K A) (KK : C10 P K mg A) : FnG P w K mg base CX0 13 A.aLaw F.fLaw ["script"] (spLaw K) := by
  have bPen : Binds K F.fPen ["script"] [] := F.FPen.binds (fun _ _ _ _ _ _ us hl => match us, hl with | [_], _ => rfl)
  have bAny : Binds K F.fAny ["pen", "deep"] [] := F.FAny.binds (fun _ _ _ _ _ _ us hl => match us, hl with | [_, _], _ => rfl)
  have bDraw : Binds K F.fDraw ["pen", "many"] [] := F.FDraw.binds (fun _ _ _ _ _ _ us hl => match us, hl with | [_, _], _ => rfl)
  have bPick : Binds K F.fPick ["pen", "some"] [] := F.FPick.binds (fun _ _ _ _ _ _ us hl => match us, hl with | [_, _], _ => rfl)
  have bFixed : Binds K F.fFixed ["value"] [] := F.FFixed.binds (fun _ _ _ _ _ _ us hl => match us, hl with | [_], _ => rfl)
  have bIsInteger : Binds K F.fIsInteger ["value"] [] := F.FIsInteger.binds (fun _ _ _ _ _ _ us hl => match us, hl with | [_], _ => rfl)
  have bIsListed : Binds K F.fIsListed ["value"] [] := F.FIsListed.binds (fun _ _ _ _ _ _ us hl => match us, hl with | [_], _ => rfl)
  have bIsWithin : Binds K F.fIsWithin ["value", "least", "most"] [] := F.FIsWithin.binds (fun _ _ _ _ _ _ us hl => match us, hl with | [_, _, _], _ => rfl)
  have bIsName : Binds K F.fIsName ["value"] [] := F.FIsName.binds (fun _ _ _ _ _ _ us hl => match us, hl with | [_], _ => rfl)
  have bAreNames : Binds K F.fAreNames ["value", "most"] [] := F.FAreNames.binds (fun _ _ _ _ _ _ us hl => match us, hl with | [_, _], _ => rfl)
  have bPlIsNumber : Binds K F.fPlIsNumber ["value", "many"] [] := F.FPlIsNumber.binds (fun _ _ _ _ _ _ us hl => match us, hl with | [_, _], _ => rfl)
  have bPlIsName : Binds K F.fPlIsName ["value"] [] := F.FPlIsName.binds (fun _ _ _ _ _ _ us hl => match us, hl with | [_], _ => rfl)
  have bPEq : Binds K F.fPEq ["self", "other"] [] := F.FPEq.binds (fun _ _ _ _ _ _ us hl => match us, hl with | [_, _], _ => rfl)
  have GPEq := ok_peq (P := P) (w := w) (mg := mg) (base := base) F T
  have bPBool : Binds K F.fPBool ["self"] [] := F.FPBool.binds (fun _ _ _ _ _ _ us hl => match us, hl with | [_], _ => rfl)
  have GPBool := ok_pbool (P := P) (w := w) (mg := mg) (base := base) F
  have bDBool : Binds K F.fDBool ["self"] [] := F.FDBool.binds (fun _ _ _ _ _ _ us hl => match us, hl with | [_], _ => rfl)
  have GDBool := ok_dbool (P := P) (w := w) (mg := mg) (base := base) F
  have bbBack : Binds K KK.fdBack ["self", "row"] [] := by
    obtain ⟨_, _, _, _, _, _, _, _, _, _, h, _⟩ := KK.xBack
    rw [h]
    exact .all fun us hl => match us, hl with | [_, _], _ => rfl
  have kbBack : KBn K KK.fdBack ["self", "row"] 1 ["row"] (fun us ws => us ++ ws.reverse) (fun us ws => us ++ ws.reverse) := by
    obtain ⟨_, _, _, _, _, _, _, _, _, _, h, _⟩ := KK.xBack
    rw [h]
    exact kbn_of (fun us ws l1 l2 => match us, l1, ws, l2 with | [_], _, [_], _ => rfl) fun r1 r2 => r1.append (vals_rev r2)
  have GBack := ok_Back (P := P) (w := w) (mg := mg) (base := base) F T KK.xBack KK.tBack.cl KK.tBack.no 5
  have bbKept : Binds K KK.fdKept ["self", "levels", "frames"] [] := by
    obtain ⟨_, _, _, _, _, _, _, _, _, _, h, _⟩ := KK.xKept
    rw [h]
    exact .all fun us hl => match us, hl with | [_, _, _], _ => rfl
  have kbKept : KBn K KK.fdKept ["self", "levels", "frames"] 1 ["frames", "levels"] (fun us ws => us ++ ws.reverse) (fun us ws => us ++ ws.reverse) := by
    obtain ⟨_, _, _, _, _, _, _, _, _, _, h, _⟩ := KK.xKept
    rw [h]
    exact kbn_of (fun us ws l1 l2 => match us, l1, ws, l2 with | [_], _, [_, _], _ => rfl) fun r1 r2 => r1.append (vals_rev r2)
  have GKept := ok_Kept (P := P) (w := w) (mg := mg) (base := base) F T KK.xKept KK.tKept.cl KK.tKept.no 5
  have bbDeep : Binds K KK.fdDeep ["self", "most", "calls", "levels"] [] := by
    obtain ⟨_, _, _, _, _, _, _, _, _, _, h, _⟩ := KK.xDeep
    rw [h]
    exact .all fun us hl => match us, hl with | [_, _, _, _], _ => rfl
  have kbDeep : KBn K KK.fdDeep ["self", "most", "calls", "levels"] 1 ["levels", "calls", "most"] (fun us ws => us ++ ws.reverse) (fun us ws => us ++ ws.reverse) := by
    obtain ⟨_, _, _, _, _, _, _, _, _, _, h, _⟩ := KK.xDeep
    rw [h]
    exact kbn_of (fun us ws l1 l2 => match us, l1, ws, l2 with | [_], _, [_, _, _], _ => rfl) fun r1 r2 => r1.append (vals_rev r2)
  have GDeep := ok_Deep (P := P) (w := w) (mg := mg) (base := base) F T KK.xDeep KK.tDeep.cl KK.tDeep.no 5
  have bbBottomless : Binds K KK.fdBottomless ["self", "calls", "again"] [] := by
    obtain ⟨_, _, _, _, _, _, _, _, _, _, h, _⟩ := KK.xBottomless
    rw [h]
    exact .all fun us hl => match us, hl with | [_, _, _], _ => rfl
  have kbBottomless : KBn K KK.fdBottomless ["self", "calls", "again"] 1 ["again", "calls"] (fun us ws => us ++ ws.reverse) (fun us ws => us ++ ws.reverse) := by
    obtain ⟨_, _, _, _, _, _, _, _, _, _, h, _⟩ := KK.xBottomless
    rw [h]
    exact kbn_of (fun us ws l1 l2 => match us, l1, ws, l2 with | [_], _, [_, _], _ => rfl) fun r1 r2 => r1.append (vals_rev r2)
  have GBottomless := ok_Bottomless (P := P) (w := w) (mg := mg) (base := base) F T KK.xBottomless KK.tBottomless.cl KK.tBottomless.no 5
  have bbEnds : Binds K KK.fdEnds ["self", "row"] [] := by
    obtain ⟨_, _, _, _, _, _, _, _, _, _, h, _⟩ := KK.xEnds
    rw [h]
    exact .all fun us hl => match us, hl with | [_, _], _ => rfl
  have kbEnds : KBn K KK.fdEnds ["self", "row"] 1 ["row"] (fun us ws => us ++ ws.reverse) (fun us ws => us ++ ws.reverse) := by
    obtain ⟨_, _, _, _, _, _, _, _, _, _, h, _⟩ := KK.xEnds
    rw [h]
    exact kbn_of (fun us ws l1 l2 => match us, l1, ws, l2 with | [_], _, [_], _ => rfl) fun r1 r2 => r1.append (vals_rev r2)
  have GEnds := ok_Ends (P := P) (w := w) (mg := mg) (base := base) F T KK.xEnds KK.tEnds.cl KK.tEnds.no 5
  have bbComes : Binds K KK.fdComes ["self", "row"] [] := by
    obtain ⟨_, _, _, _, _, _, _, _, _, _, h, _⟩ := KK.xComes
    rw [h]
    exact .all fun us hl => match us, hl with | [_, _], _ => rfl
  have kbComes : KBn K KK.fdComes ["self", "row"] 1 ["row"] (fun us ws => us ++ ws.reverse) (fun us ws => us ++ ws.reverse) := by
    obtain ⟨_, _, _, _, _, _, _, _, _, _, h, _⟩ := KK.xComes
    rw [h]
    exact kbn_of (fun us ws l1 l2 => match us, l1, ws, l2 with | [_], _, [_], _ => rfl) fun r1 r2 => r1.append (vals_rev r2)
  have GComes := ok_Comes (P := P) (w := w) (mg := mg) (base := base) F T KK.xComes KK.tComes.cl KK.tComes.no 5
  have bbNever : Binds K KK.fdNever ["self", "levels"] [] := by
    obtain ⟨_, _, _, _, _, _, _, _, _, _, h, _⟩ := KK.xNever
    rw [h]
    exact .all fun us hl => match us, hl with | [_, _], _ => rfl
  have kbNever : KBn K KK.fdNever ["self", "levels"] 1 ["levels"] (fun us ws => us ++ ws.reverse) (fun us ws => us ++ ws.reverse) := by
    obtain ⟨_, _, _, _, _, _, _, _, _, _, h, _⟩ := KK.xNever
    rw [h]
    exact kbn_of (fun us ws l1 l2 => match us, l1, ws, l2 with | [_], _, [_], _ => rfl) fun r1 r2 => r1.append (vals_rev r2)
  have GNever := ok_Never (P := P) (w := w) (mg := mg) (base := base) F T KK.xNever KK.tNever.cl KK.tNever.no 5
  have bbSound : Binds K KK.fdSound ["self", "levels"] [] := by
    obtain ⟨_, _, _, _, _, _, _, _, _, _, h, _⟩ := KK.xSound
    rw [h]
    exact .all fun us hl => match us, hl with | [_, _], _ => rfl
  have kbSound : KBn K KK.fdSound ["self", "levels"] 1 ["levels"] (fun us ws => us ++ ws.reverse) (fun us ws => us ++ ws.reverse) := by
    obtain ⟨_, _, _, _, _, _, _, _, _, _, h, _⟩ := KK.xSound
    rw [h]
    exact kbn_of (fun us ws l1 l2 => match us, l1, ws, l2 with | [_], _, [_], _ => rfl) fun r1 r2 => r1.append (vals_rev r2)
  have GSound := ok_Sound (P := P) (w := w) (mg := mg) (base := base) F T KK.xSound KK.tSound.cl KK.tSound.no 5
  have bbLoses : Binds K KK.fdLoses ["self", "row"] [] := by
    obtain ⟨_, _, _, _, _, _, _, _, _, _, h, _⟩ := KK.xLoses
    rw [h]
    exact .all fun us hl => match us, hl with | [_, _], _ => rfl
  have kbLoses : KBn K KK.fdLoses ["self", "row"] 1 ["row"] (fun us ws => us ++ ws.reverse) (fun us ws => us ++ ws.reverse) := by
    obtain ⟨_, _, _, _, _, _, _, _, _, _, h, _⟩ := KK.xLoses
    rw [h]
    exact kbn_of (fun us ws l1 l2 => match us, l1, ws, l2 with | [_], _, [_], _ => rfl) fun r1 r2 => r1.append (vals_rev r2)
  have GLoses := ok_Loses (P := P) (w := w) (mg := mg) (base := base) F T KK.xLoses KK.tLoses.cl KK.tLoses.no 5
  have bbOuts : Binds K KK.fdOuts ["self", "row"] [] := by
    obtain ⟨_, _, _, _, _, _, _, _, _, _, h, _⟩ := KK.xOuts
    rw [h]
    exact .all fun us hl => match us, hl with | [_, _], _ => rfl
  have kbOuts : KBn K KK.fdOuts ["self", "row"] 1 ["row"] (fun us ws => us ++ ws.reverse) (fun us ws => us ++ ws.reverse) := by
    obtain ⟨_, _, _, _, _, _, _, _, _, _, h, _⟩ := KK.xOuts
    rw [h]
    exact kbn_of (fun us ws l1 l2 => match us, l1, ws, l2 with | [_], _, [_], _ => rfl) fun r1 r2 => r1.append (vals_rev r2)
  have GOuts := ok_Outs (P := P) (w := w) (mg := mg) (base := base) F T KK.xOuts KK.tOuts.cl KK.tOuts.no 5
  have GPInit := ok_pinit (P := P) (w := w) (mg := mg) (base := base) F T 5

  refine okG F.FLaw scLaw (fun vs H Q E h => ?_) (fun cdv Ar outer s H vs Q E gd hr h => ?_)
  · obtain ⟨a, ns, rfl, _⟩ := h
    rfl
  · obtain ⟨a, ns, rfl, hs, k⟩ := h
    have GPen := ok_pen (P := P) (w := w) (mg := mg) (base := base) F T
    have GAny := ok_any (P := P) (w := w) (mg := mg) (base := base) F T 3
    have GFixed := ok_fixed (P := P) (w := w) (mg := mg) (base := base) F T 4
    have GIsInteger := ok_isInteger (P := P) (w := w) (mg := mg) (base := base) F T
    have GIsListed := ok_isListed (P := P) (w := w) (mg := mg) (base := base) F T
    have GIsWithin := ok_isWithin (P := P) (w := w) (mg := mg) (base := base) F T
    have GPlIsNumber := ok_plNum (P := P) (w := w) (mg := mg) (base := base) F T
    have GIsName := ok_isName (P := P) (w := w) (mg := mg) (base := base) F T
    have GPlIsName := ok_plName (P := P) (w := w) (mg := mg) (base := base) F T
    have GAreNames := ok_areNames (P := P) (w := w) (mg := mg) (base := base) F T
    have GPick := ok_pick (P := P) (w := w) (mg := mg) (base := base) F T
    have GDraw := ok_draw (P := P) (w := w) (mg := mg) (base := base) F T
    have hu := hr.units
    have hu80 := Nat.lt_of_le_of_lt (by omega : (Ar.deeper (envOfC "law" (defScope sLaw) s.heap.objs.size A.aLaw cdv)).units + 80 ≤ (Ar.deeper (envOfC "law" (defScope sLaw) s.heap.objs.size A.aLaw cdv)).units + 16 * 12 + 200) hr.un
    refine ⟨_, (pss_cons (ps_set (i := 1) scLaw.nd rfl (Or.inr rfl) (pe_call GPen (hr.mono (by decide)) rfl T.gPen T.kPen bPen .nil pass0 (pa_cons (pv 0) pa_nil)))
  (pss_cons (ps_for PassesOwn.never rfl (pi_range1 rfl T.b_range (pa_cons pe_int pa_nil)) (pg_name (i := 2) scLaw.nd rfl (Or.inl rfl)) (pss_cons (ps_setLc (i := 3) (own := [("lap", 4)]) rfl scLaw.nd rfl rfl (sw_true rfl rfl rfl (by decide +kernel)) (pi_range1 rfl T.b_range (pa_cons pe_int pa_nil)) (blkOk_by (own := [("lap", 4)]) (N := ["script", "pen", "turn", "both", "lap", "one", "two", "three", "value", "told", "due", "papers", "paper", "word", "parts", "is_true", "some"]) (sc := defScope (top 32)) (by decide +kernel)) (fun _ _ _ _ _ => (pg_name (i := 4) scLaw.nd rfl (Or.inl rfl))) (fun _ _ _ _ _ => pts_nil) (fun _ _ _ _ _ => (pe_call GAny (hr.mono (by decide)) rfl T.gAny T.kAny bAny .nil pass0 (pa_cons (pv 1) (pa_cons pe_int pa_nil)))))
  (pss_cons (ps_asg (pe_lc (own := [("value", 8), ("told", 9)]) rfl scLaw.nd (pi_list (pv 3)) (blkOk_by (own := [("value", 8), ("told", 9)]) (N := ["script", "pen", "turn", "both", "lap", "one", "two", "three", "value", "told", "due", "papers", "paper", "word", "parts", "is_true", "some"]) (sc := defScope (top 32)) (by decide +kernel)) (fun _ _ _ _ _ => (OwnL.pg_tupC (K := K) (n := 2) rfl rfl (pgs_cons (pg_name (i := 8) scLaw.nd rfl (Or.inl rfl)) (pgs_cons (pg_name (i := 9) scLaw.nd rfl (Or.inl rfl)) pgs_nil)))) (fun _ _ _ _ _ => pts_nil) (fun _ _ _ _ _ => (pv 8))) (pg_lst rfl (pgs_cons (pg_name (i := 5) scLaw.nd rfl (Or.inl rfl)) (pgs_cons (pg_name (i := 6) scLaw.nd rfl (Or.inl rfl)) (pgs_cons (pg_name (i := 7) scLaw.nd rfl (Or.inl rfl)) pgs_nil)))))
  (pss_cons (ps_set (i := 10) scLaw.nd rfl (Or.inl rfl) (pe_callTy call_tuple_of (by rfl) T.b_tuple (by decide +kernel) (pa_cons (pe_lc (own := [("value", 8), ("told", 9)]) rfl scLaw.nd (pi_list (pv 3)) (blkOk_by (own := [("value", 8), ("told", 9)]) (N := ["script", "pen", "turn", "both", "lap", "one", "two", "three", "value", "told", "due", "papers", "paper", "word", "parts", "is_true", "some"]) (sc := defScope (top 32)) (by decide +kernel)) (fun _ _ _ _ _ => (OwnL.pg_tupC (K := K) (n := 2) rfl rfl (pgs_cons (pg_name (i := 8) scLaw.nd rfl (Or.inl rfl)) (pgs_cons (pg_name (i := 9) scLaw.nd rfl (Or.inl rfl)) pgs_nil)))) (fun _ _ _ _ _ => pts_nil) (fun _ _ _ _ _ => (pv 9))) pa_nil)))
  (pss_cons (ps_set (i := 11) scLaw.nd rfl (Or.inl rfl) (pe_lst (pa_cons (pe_tup (pa_cons (pe_makeK0 KK.kEnds GEnds (hr.mono (by decide)) rfl T.gEnds kbEnds pass0 (pk_cons (pv 5) pk_nil)) (pa_cons pe_str (pa_cons (pe_slice sl_tup (pv 10) po_none (po_some pe_int)) (pa_cons pe_bl pa_nil))))) (pa_cons (pe_tup (pa_cons (pe_makeK0 KK.kComes GComes (hr.mono (by decide)) rfl T.gComes kbComes pass0 (pk_cons (pv 5) pk_nil)) (pa_cons pe_str (pa_cons (pe_slice sl_tup (pv 10) po_none (po_some pe_int)) (pa_cons pe_bl pa_nil))))) (pa_cons (pe_tup (pa_cons (pe_makeK0 KK.kNever GNever (hr.mono (by decide)) rfl T.gNever kbNever pass0 (pk_cons (pv 5) pk_nil)) (pa_cons pe_str (pa_cons (pe_slice sl_tup (pv 10) po_none (po_some pe_int)) (pa_cons pe_bl pa_nil))))) (pa_cons (pe_tup (pa_cons (pe_makeK0 KK.kBack GBack (hr.mono (by decide)) rfl T.gBack kbBack pass0 (pk_cons (pv 5) pk_nil)) (pa_cons pe_str (pa_cons (pe_slice sl_tup (pv 10) po_none (po_some pe_int)) (pa_cons pe_bl pa_nil))))) pa_nil))))))
  (pss_cons (ps_set (i := 11) scLaw.nd rfl (Or.inl rfl) (pe_op op_cat (pv 11) (pe_lst (pa_cons (pe_tup (pa_cons (pe_makeK0 KK.kKept GKept (hr.mono (by decide)) rfl T.gKept kbKept pass0 (pk_cons (pv 6) (pk_cons (pv 5) pk_nil))) (pa_cons pe_str (pa_cons (pe_slice sl_tup (pv 10) po_none (po_some pe_int)) (pa_cons pe_bl pa_nil))))) (pa_cons (pe_tup (pa_cons (pe_makeK0 KK.kDeep GDeep (hr.mono (by decide)) rfl T.gDeep kbDeep pass0 (pk_cons (pv 7) (pk_cons (pv 6) (pk_cons (pv 5) pk_nil)))) (pa_cons pe_str (pa_cons (pv 10) (pa_cons pe_bl pa_nil))))) pa_nil)))))
  (pss_cons (ps_set (i := 11) scLaw.nd rfl (Or.inl rfl) (pe_op op_cat (pv 11) (pe_lst (pa_cons (pe_tup (pa_cons (pe_makeK0 KK.kBottomless GBottomless (hr.mono (by decide)) rfl T.gBottomless kbBottomless pass0 (pk_cons (pv 6) (pk_cons (pv 5) pk_nil))) (pa_cons pe_str (pa_cons (pe_slice sl_tup (pv 10) po_none (po_some pe_int)) (pa_cons pe_bl pa_nil))))) (pa_cons (pe_tup (pa_cons (pe_makeK0 KK.kSound GSound (hr.mono (by decide)) rfl T.gSound kbSound pass0 (pk_cons (pv 5) pk_nil)) (pa_cons pe_str (pa_cons (pe_slice sl_tup (pv 10) po_none (po_some pe_int)) (pa_cons pe_bl pa_nil))))) pa_nil)))))
  (pss_cons (ps_set (i := 11) scLaw.nd rfl (Or.inl rfl) (pe_op op_cat (pv 11) (pe_lst (pa_cons (pe_tup (pa_cons (pe_makeK0 KK.kLoses GLoses (hr.mono (by decide)) rfl T.gLoses kbLoses pass0 (pk_cons (pv 5) pk_nil)) (pa_cons pe_str (pa_cons (pe_slice sl_tup (pv 10) po_none (po_some pe_int)) (pa_cons pe_bl pa_nil))))) (pa_cons (pe_tup (pa_cons (pe_makeK0 KK.kOuts GOuts (hr.mono (by decide)) rfl T.gOuts kbOuts pass0 (pk_cons (pv 5) pk_nil)) (pa_cons pe_str (pa_cons (pe_slice sl_tup (pv 10) po_none (po_some pe_int)) (pa_cons pe_bl pa_nil))))) pa_nil)))))
  (pss_cons (ps_set (i := 11) scLaw.nd rfl (Or.inl rfl) (pe_op op_cat (pv 11) (pe_lst (pa_cons (pe_tup (pa_cons (pe_makeR KK.kDenial GPInit (hr.mono (by decide)) rfl T.gDenial pass0 (pa_cons pe_str (pa_cons (pv 5) (pa_cons (pv 6) pa_nil)))) (pa_cons pe_str (pa_cons (pe_slice sl_tup (pv 10) po_none (po_some pe_int)) (pa_cons pe_bl pa_nil))))) (pa_cons (pe_tup (pa_cons (pe_makeR KK.kPaper GPInit (hr.mono (by decide)) rfl T.gPaper pass0 (pa_cons pe_str (pa_cons (pv 5) pa_nil))) (pa_cons pe_str (pa_cons (pe_slice sl_tup (pv 10) po_none (po_some pe_int)) (pa_cons pe_bl pa_nil))))) pa_nil)))))
  (pss_cons (ps_if (pt_cmpR (op_neD hu) (pe_lc (own := [("paper", 12), ("word", 13), ("parts", 14), ("is_true", 15)]) rfl scLaw.nd (pi_list (pv 11)) (blkOk_by (own := [("paper", 12), ("word", 13), ("parts", 14), ("is_true", 15)]) (N := ["script", "pen", "turn", "both", "lap", "one", "two", "three", "value", "told", "due", "papers", "paper", "word", "parts", "is_true", "some"]) (sc := defScope (top 32)) (by decide +kernel)) (fun _ _ _ _ _ => (OwnL.pg_tupC (K := K) (n := 4) rfl rfl (pgs_cons (pg_name (i := 12) scLaw.nd rfl (Or.inl rfl)) (pgs_cons (pg_name (i := 13) scLaw.nd rfl (Or.inl rfl)) (pgs_cons (pg_name (i := 14) scLaw.nd rfl (Or.inl rfl)) (pgs_cons (pg_name (i := 15) scLaw.nd rfl (Or.inl rfl)) pgs_nil)))))) (fun _ _ _ _ _ => pts_one (pt_cmpR op_ne (pe_callB (callR_K (K := K) rReprD rfl (call_reprD gd hu80)) (by rfl) T.b_repr (by decide +kernel) (pa_cons (pe_lst (pa_cons (pe_fldK (K := K) rfl (pv 12) rfl) (pa_cons (pe_fldK (K := K) rfl (pv 12) rfl) (pa_cons (pe_callTy ((callR_K (K := K) (fun K => rBoolI K A.aPBool (spBool true) E0) rfl (call_boolI GPBool KK.fnPBool bPBool pass0 (hr.mono (by decide)))).or (callR_K (K := K) (fun K => rBoolI K A.aDBool (spBool false) E0) rfl (call_boolI GDBool KK.fnDBool bDBool pass0 (hr.mono (by decide))))) (by rfl) T.b_bool (by decide +kernel) (pa_cons (pv 12) pa_nil)) (pa_cons (pe_callB (callR_K (K := K) rIsi rfl call_isi) (by rfl) T.b_isinstance (by decide +kernel) (pa_cons (pv 12) (pa_cons (pe_glob (v := .ref A.cDenial) rfl T.gDenial rfl) pa_nil))) pa_nil))))) pa_nil)) (pe_callB (callR_K (K := K) rReprD rfl (call_reprD gd hu80)) (by rfl) T.b_repr (by decide +kernel) (pa_cons (pe_lst (pa_cons (pv 13) (pa_cons (pv 14) (pa_cons (pv 15) (pa_cons (pe_not (pv 15)) pa_nil))))) pa_nil)) (nomark _))) (fun _ _ _ _ _ => pe_int)) (pe_lst pa_nil) (nomark _)) (pss_one (ps_ret pe_bl)) pss_nil)
  (pss_cons (ps_if (pt_cmpR op_ne (pe_callB (callR_K (K := K) rReprD rfl (call_reprD gd hu80)) (by rfl) T.b_repr (by decide +kernel) (pa_cons (pe_lst (pa_cons (pe_fld (pe_ix ix_tup (pe_ix ix_list (pv 11) pe_int (fun _ _ => rfl)) pe_int (fun _ _ => rfl)) rfl) (pa_cons (pe_fld (pe_ix ix_tup (pe_ix ix_list (pv 11) pe_int (fun _ _ => rfl)) pe_int (fun _ _ => rfl)) rfl) (pa_cons (pe_fld (pe_ix ix_tup (pe_ix ix_list (pv 11) pe_int (fun _ _ => rfl)) pe_int (fun _ _ => rfl)) rfl) (pa_cons (pe_fld (pe_ix ix_tup (pe_ix ix_list (pv 11) pe_int (fun _ _ => rfl)) pe_int (fun _ _ => rfl)) rfl) (pa_cons (pe_fld (pe_ix ix_tup (pe_ix ix_list (pv 11) pe_int (fun _ _ => rfl)) pe_int (fun _ _ => rfl)) rfl) pa_nil)))))) pa_nil)) (pe_callB (callR_K (K := K) rReprD rfl (call_reprD gd hu80)) (by rfl) T.b_repr (by decide +kernel) (pa_cons (pe_lst (pa_cons (pe_ix ix_tup (pv 10) pe_int (fun _ _ => rfl)) (pa_cons (pe_ix ix_tup (pv 10) pe_int (fun _ _ => rfl)) (pa_cons (pe_ix ix_tup (pv 10) pe_int (fun _ _ => rfl)) (pa_cons (pe_ix ix_tup (pv 10) pe_int (fun _ _ => rfl)) (pa_cons (pe_ix ix_tup (pv 10) pe_int (fun _ _ => rfl)) pa_nil)))))) pa_nil)) (nomark _)) (pss_one (ps_ret pe_bl)) pss_nil)
  (pss_cons (ps_if (PW.pt (pw_or (pt_cmpR op_ne (pe_callB (callR_K (K := K) rReprD rfl (call_reprD gd hu80)) (by rfl) T.b_repr (by decide +kernel) (pa_cons (pe_call GFixed (hr.mono (by decide)) rfl T.gFixed T.kFixed bFixed .nil pass0 (pa_cons (pv 5) pa_nil)) pa_nil)) (pe_callB (callR_K (K := K) rReprD rfl (call_reprD gd hu80)) (by rfl) T.b_repr (by decide +kernel) (pa_cons (pe_ix ix_tup (pv 10) pe_int (fun _ _ => rfl)) pa_nil)) (nomark _)) (pw_or (pt_cmpR (op_neI GPEq KK.fnPEq bPEq pass0 (hr.mono (by decide))) (pe_make KK.kEnds GEnds (hr.mono (by decide)) rfl T.gEnds bbEnds .nil pass0 (pa_cons (pv 5) pa_nil)) (pe_make KK.kEnds GEnds (hr.mono (by decide)) rfl T.gEnds bbEnds .nil pass0 (pa_cons (pe_ix ix_tup (pv 10) pe_int (fun _ _ => rfl)) pa_nil)) (nomark _)) (pw_or1 (pt_cmpR (op_neI GPEq KK.fnPEq bPEq pass0 (hr.mono (by decide))) (pe_make KK.kKept GKept (hr.mono (by decide)) rfl T.gKept bbKept .nil pass0 (pa_cons (pv 5) (pa_cons (pv 6) pa_nil))) (pe_make KK.kKept GKept (hr.mono (by decide)) rfl T.gKept bbKept .nil pass0 (pa_cons (pe_ix ix_tup (pv 10) pe_int (fun _ _ => rfl)) (pa_cons (pe_ix ix_tup (pv 10) pe_int (fun _ _ => rfl)) pa_nil))) (nomark _)))))) (pss_one (ps_ret pe_bl)) pss_nil)
  (pss_cons (ps_if (PW.pt (pw_or (pt_cmpR (op_eqI GPEq KK.fnPEq bPEq pass0 (hr.mono (by decide))) (pe_make KK.kEnds GEnds (hr.mono (by decide)) rfl T.gEnds bbEnds .nil pass0 (pa_cons (pv 5) pa_nil)) (pe_make KK.kComes GComes (hr.mono (by decide)) rfl T.gComes bbComes .nil pass0 (pa_cons (pv 5) pa_nil)) (nomark _)) (pw_or (pt_cmpR (op_eqI GPEq KK.fnPEq bPEq pass0 (hr.mono (by decide))) (pe_make KK.kEnds GEnds (hr.mono (by decide)) rfl T.gEnds bbEnds .nil pass0 (pa_cons (pv 5) pa_nil)) (pe_makeR KK.kPaper GPInit (hr.mono (by decide)) rfl T.gPaper pass0 (pa_cons pe_str (pa_cons (pv 5) pa_nil))) (nomark _)) (pw_or (pt_not (pt_cmpR (op_neI GPEq KK.fnPEq bPEq pass0 (hr.mono (by decide))) (pe_make KK.kEnds GEnds (hr.mono (by decide)) rfl T.gEnds bbEnds .nil pass0 (pa_cons (pv 5) pa_nil)) (pe_make KK.kEnds GEnds (hr.mono (by decide)) rfl T.gEnds bbEnds .nil pass0 (pa_cons (pe_tup (pa_cons (pv 5) (pa_cons pe_int pa_nil))) pa_nil)) (nomark _))) (pw_or1 (pt_cmpR (op_eqI GPEq KK.fnPEq bPEq pass0 (hr.mono (by decide))) (pe_make KK.kKept GKept (hr.mono (by decide)) rfl T.gKept bbKept .nil pass0 (pa_cons (pv 5) (pa_cons (pv 6) pa_nil))) (pe_make KK.kKept GKept (hr.mono (by decide)) rfl T.gKept bbKept .nil pass0 (pa_cons (pv 5) (pa_cons (pe_tup (pa_cons (pv 6) (pa_cons pe_int pa_nil))) pa_nil))) (nomark _))))))) (pss_one (ps_ret pe_bl)) pss_nil)
  (pss_one (ps_if (pt_cmpR op_ne (pe_callB (callR_K (K := K) rReprD rfl (call_reprD gd hu80)) (by rfl) T.b_repr (by decide +kernel) (pa_cons (pe_lst (pa_cons (pe_call GIsInteger (hr.mono (by decide)) rfl T.gIsInteger T.kIsInteger bIsInteger .nil pass0 (pa_cons (pv 5) pa_nil)) (pa_cons (pe_call GIsListed (hr.mono (by decide)) rfl T.gIsListed T.kIsListed bIsListed .nil pass0 (pa_cons (pv 5) pa_nil)) (pa_cons (pe_call GIsWithin (hr.mono (by decide)) rfl T.gIsWithin T.kIsWithin bIsWithin .nil pass0 (pa_cons (pv 5) (pa_cons pe_int (pa_cons pe_int pa_nil)))) pa_nil)))) pa_nil)) (pe_callB (callR_K (K := K) rReprD rfl (call_reprD gd hu80)) (by rfl) T.b_repr (by decide +kernel) (pa_cons (pe_lst (pa_cons (pe_and (pe_callB (callR_K (K := K) rIsi rfl call_isi) (by rfl) T.b_isinstance (by decide +kernel) (pa_cons (pv 5) (pa_cons (pe_bltn (v := .ty "int") (u := .type "int") rfl T.b_int (by decide +kernel) rfl) pa_nil))) (pe_one (pe_not (pe_callB (callR_K (K := K) rIsi rfl call_isi) (by rfl) T.b_isinstance (by decide +kernel) (pa_cons (pv 5) (pa_cons (pe_bltn (v := .ty "bool") (u := .type "bool") rfl T.b_bool (by decide +kernel) rfl) pa_nil)))))) (pa_cons (pe_callB (callR_K (K := K) rIsiT rfl call_isiT) (by rfl) T.b_isinstance (by decide +kernel) (pa_cons (pv 5) (pa_cons (pe_tup (pa_cons (pe_bltn (v := .ty "list") (u := .type "list") rfl T.b_list (by decide +kernel) rfl) (pa_cons (pe_bltn (v := .ty "tuple") (u := .type "tuple") rfl T.b_tuple (by decide +kernel) rfl) pa_nil))) pa_nil))) (pa_cons (pe_call GPlIsNumber (hr.mono (by decide)) rfl T.gPlIsNumber T.kPlIsNumber bPlIsNumber .nil pass0 (pa_cons (pv 5) (pa_cons pe_int pa_nil))) pa_nil)))) pa_nil)) (nomark _)) (pss_one (ps_ret pe_bl)) pss_nil)))))))))))))))
  (pss_cons (ps_set (i := 13) scLaw.nd rfl (Or.inr rfl) (pe_join pe_str (pe_lc (own := [("turn", 2)]) rfl scLaw.nd (pi_range1 rfl T.b_range (pa_cons (pe_call GDraw (hr.mono (by decide)) rfl T.gDraw T.kDraw bDraw .nil pass0 (pa_cons (pv 1) (pa_cons pe_int pa_nil))) pa_nil)) (blkOk_by (own := [("turn", 2)]) (N := ["script", "pen", "turn", "both", "lap", "one", "two", "three", "value", "told", "due", "papers", "paper", "word", "parts", "is_true", "some"]) (sc := defScope (top 32)) (by decide +kernel)) (fun _ _ _ _ _ => (pg_name (i := 2) scLaw.nd rfl (Or.inl rfl))) (fun _ _ _ _ _ => pts_nil) (fun _ _ _ _ _ => (pe_call GPick (hr.mono (by decide)) rfl T.gPick T.kPick bPick .nil pass0 (pa_cons (pv 1) (pa_cons (pe_lst (pa_cons pe_str (pa_cons pe_str (pa_cons pe_str (pa_cons pe_str (pa_cons pe_str (pa_cons pe_str (pa_cons pe_str pa_nil)))))))) pa_nil)))))))
  (pss_cons (ps_setLc (i := 16) (own := [("turn", 2)]) rfl scLaw.nd rfl rfl (sw_true rfl rfl rfl (by decide +kernel)) (pi_range1 rfl T.b_range (pa_cons (pe_call GDraw (hr.mono (by decide)) rfl T.gDraw T.kDraw bDraw .nil pass0 (pa_cons (pv 1) (pa_cons pe_int pa_nil))) pa_nil)) (blkOk_by (own := [("turn", 2)]) (N := ["script", "pen", "turn", "both", "lap", "one", "two", "three", "value", "told", "due", "papers", "paper", "word", "parts", "is_true", "some"]) (sc := defScope (top 32)) (by decide +kernel)) (fun _ _ _ _ _ => (pg_name (i := 2) scLaw.nd rfl (Or.inl rfl))) (fun _ _ _ _ _ => pts_nil) (fun _ _ _ _ _ => (pe_call GPick (hr.mono (by decide)) rfl T.gPick T.kPick bPick .nil pass0 (pa_cons (pv 1) (pa_cons (pe_lst (pa_cons pe_str (pa_cons pe_str (pa_cons pe_str (pa_cons (pv 13) pa_nil))))) pa_nil)))))
  (pss_cons (ps_set (i := 10) scLaw.nd rfl (Or.inl rfl) (pe_and (pe_cmpR (op_eqD hu) (pe_lc (own := [("one", 5)]) rfl scLaw.nd (pi_list (pv 16)) (blkOk_by (own := [("one", 5)]) (N := ["script", "pen", "turn", "both", "lap", "one", "two", "three", "value", "told", "due", "papers", "paper", "word", "parts", "is_true", "some"]) (sc := defScope (top 32)) (by decide +kernel)) (fun _ _ _ _ _ => (pg_name (i := 5) scLaw.nd rfl (Or.inl rfl))) (fun _ _ _ _ _ => pts_one (pt_not (pt_val (pe_call GPlIsName (hr.mono (by decide)) rfl T.gPlIsName T.kPlIsName bPlIsName .nil pass0 (pa_cons (pv 5) pa_nil))))) (fun _ _ _ _ _ => pe_int)) (pe_lst pa_nil) (nomark _)) (pe_one (pe_cmpR op_eq (pe_lenSetS rfl (by rfl) T.b_len (by rfl) T.b_set (pv 16)) (pe_callB call_len_seq (by rfl) T.b_len (by decide +kernel) (pa_cons (pv 16) pa_nil)) (nomark _)))))
  (pss_one (ps_ret (pe_cmpR op_eq (pe_callB (callR_K (K := K) rReprD rfl (call_reprD gd hu80)) (by rfl) T.b_repr (by decide +kernel) (pa_cons (pe_lst (pa_cons (pe_call GIsName (hr.mono (by decide)) rfl T.gIsName T.kIsName bIsName .nil pass0 (pa_cons (pv 13) pa_nil)) (pa_cons (pe_call GAreNames (hr.mono (by decide)) rfl T.gAreNames T.kAreNames bAreNames .nil pass0 (pa_cons (pv 16) (pa_cons pe_int pa_nil))) (pa_cons (pe_call GAreNames (hr.mono (by decide)) rfl T.gAreNames T.kAreNames bAreNames .nil pass0 (pa_cons (pe_callTy call_tuple_of (by rfl) T.b_tuple (by decide +kernel) (pa_cons (pv 16) pa_nil)) (pa_cons (pe_op op_sub (pe_callB call_len_seq (by rfl) T.b_len (by decide +kernel) (pa_cons (pv 16) pa_nil)) pe_int) pa_nil))) (pa_cons (pe_call GAreNames (hr.mono (by decide)) rfl T.gAreNames T.kAreNames bAreNames .nil pass0 (pa_cons (pv 13) (pa_cons pe_int pa_nil))) pa_nil))))) pa_nil)) (pe_callB (callR_K (K := K) rReprD rfl (call_reprD gd hu80)) (by rfl) T.b_repr (by decide +kernel) (pa_cons (pe_lst (pa_cons (pe_call GPlIsName (hr.mono (by decide)) rfl T.gPlIsName T.kPlIsName bPlIsName .nil pass0 (pa_cons (pv 13) pa_nil)) (pa_cons (pv 10) (pa_cons pe_bl (pa_cons pe_bl pa_nil))))) pa_nil)) (nomark _))))))))), ?_⟩
    refine ⟨_, rfl, a, ns, rfl, hs, fun p H1 e1 hp0 hpen => ?_⟩
    refine q_forR1 (n := 6) (ea_cons ev_c ea_nil) (by decide) (fun i σ' H' => ∃ (p : Addr) (x0 x2 x3 x4 x5 x6 x7 x8 x9 x10 x11 x12 x13 x14 x15 x16 : Option V), σ' = [x0, some (.ref p), x2, x3, x4, x5, x6, x7, x8, x9, x10, x11, x12, x13, x14, x15, x16] ∧ PenOk H' p (1000 + (6 - i) * 240)) (fun H2 e2 => ⟨p, _, _, _, _, _, _, _, _, _, _, _, _, _, _, _, _, rfl, (hpen.ext e2).less (by decide)⟩) (fun i σ' H' hi h => ?_) (fun σ' H' h => ?_)
    · obtain ⟨p, x0, x2, x3, x4, x5, x6, x7, x8, x9, x10, x11, x12, x13, x14, x15, x16, rfl, hp⟩ := h
      refine q_asgQ (lc_any (n := 3) (m := 3) (p := p) (b := 1000 + (6 - (i + 1)) * 240) (S := [p]) (ea_cons ev_c ea_nil) (by decide) (hp.less (by simp only [dr]; omega)) (List.mem_singleton.mpr rfl) (fun b hb => by rw [List.mem_singleton.mp hb]; exact hp.at_) (fun x => rfl) (fun i H' R h => ⟨_, rfl, h⟩) fun D H1 acc xs ys ds hp1 s1 hacc hl prs0 hsm => ?_)
      have prs : Prs K H1 acc xs ys ds := prs0.up (hid_out _)
      have lx : xs.length = 3 := by rw [prs.lx, hl]
      have ly : ys.length = 3 := by rw [prs.ly, hl]
      have ld : ds.length = 3 := by rw [prs.ld, hl]
      have pr : ∀ (H5 : Hp), Ex H1 H5 → ∀ m u, acc[m]? = some u → ∃ t, u = .ref t ∧ SqT K H5 t [xs.getD m .non, ys.getD m .non] := fun H5 e5 m u hu => by
        obtain ⟨t, x, y, d, q1, q2, q3, _, q5, _⟩ := prs.at_ m u hu
        refine ⟨t, q1, ?_⟩
        rw [List.getD_eq_getElem?_getD, List.getD_eq_getElem?_getD, q2, q3]
        exact st_of (e5 t _ q5)
      have one := el_lcPair (K := K) (a := D) (ls := acc) (tl := tVar 3) (i := 8) (j := 9) (k := 8) (vs := [8, 9]) (H := H1) (σ := [x0, some (.ref p), some (.int i), some (.ref D), x4, x5, x6, x7, x8, x9, x10, x11, x12, x13, x14, x15, x16]) (fun x _ => x) (fun m => xs.getD m .non) (fun m => ys.getD m .non) (ev_var rfl) (sq_of hacc) (pr H1 (Ex.refl H1)) (by omega) (fun _ _ => rfl) (fun _ _ => rfl)
      rw [prs.xs_] at one
      have dpo := prs.one
      have dpt := prs.two
      obtain ⟨u0, u1, u2, rfl⟩ := len3 lx
      obtain ⟨y0, y1, y2, rfl⟩ := len3 ly
      obtain ⟨d0, d1, d2, rfl⟩ := len3 ld
      refine q_asgLT one fun q H2 hq e2 h2 => ?_
      refine ⟨q, _, rfl, sq_of h2, rfl, _, _, rfl, _, _, rfl, _, _, rfl, rfl, ?_⟩
      have two := el_lcPair (K := K) (a := D) (ls := acc) (tl := tVar 3) (i := 8) (j := 9) (k := 9) (vs := [8, 9]) (H := H2) (σ := [x0, some (.ref p), some (.int i), some (.ref D), x4, some u0, some u1, some u2, x8, x9, x10, x11, x12, x13, x14, x15, x16]) (fun _ y => y) (fun m => [u0, u1, u2].getD m .non) (fun m => [y0, y1, y2].getD m .non) (ev_var rfl) (sq_of (e2 D _ hacc)) (pr H2 e2) (by omega) (fun _ _ => rfl) (fun _ _ => rfl)
      rw [prs.ys_] at two
      refine q_asgU (eu_tupOf two) fun t H3 ht e3 h3 => ?_
      have hp3 : PenOk H3 p (1000 + (6 - (i + 1)) * 240) := (hp1.ext e2).ext e3
      have sm0 : Small 3 3819 d0 := (hsm d0 (by simp)).mono (Nat.le_refl _) (by decide)
      have sm1 : Small 3 3819 d1 := (hsm d1 (by simp)).mono (Nat.le_refl _) (by decide)
      have sm2 : Small 3 3819 d2 := (hsm d2 (by simp)).mono (Nat.le_refl _) (by decide)
      have D3 : DpAll K H3 [u0, u1, u2] [d0, d1, d2] := DpAll.ext (e2.trans e3) dpo
      have T3 : DpAll K H3 [y0, y1, y2] [tupd d0, tupd d1, tupd d2] := by
        have := DpAll.ext (e2.trans e3) dpt
        simpa only [tupdAll] using this
      have sT : SqT K H3 t [y0, y1, y2] := st_of h3
      obtain ⟨g0, g1, g2⟩ : Dp K H3 u0 d0 ∧ Dp K H3 u1 d1 ∧ Dp K H3 u2 d2 := by
        cases D3 with
        | cons a r => cases r with
          | cons b r => cases r with
            | cons c r => exact ⟨a, b, c⟩
      obtain ⟨f0, f1, f2⟩ : Dp K H3 y0 (tupd d0) ∧ Dp K H3 y1 (tupd d1) ∧ Dp K H3 y2 (tupd d2) := by
        cases T3 with
        | cons a r => cases r with
          | cons b r => cases r with
            | cons c r => exact ⟨a, b, c⟩
      have S1 : Smalls 3 3819 [d0] := .cons sm0 .nil
      have S2 : Smalls 3 3819 [d0, d1] := .cons sm0 (.cons sm1 .nil)
      have S3 : Smalls 3 3819 [d0, d1, d2] := .cons sm0 (.cons sm1 (.cons sm2 .nil))
      have m1 := mk_ok S1 (by show 1 ≤ 3; decide)
      have m2 := mk_ok S2 (by show 2 ≤ 3; decide)
      have m3 := mk_ok S3 (by show 3 ≤ 3; decide)
      have due1 : ∀ {σ : L2.St} {H4 : Hp}, Ex H3 H4 → σ[10]? = some (some (.ref t)) → EvD K (tSl (rSlT K) (tVar 10) tNoPart (tPart (tC (.int 1)))) σ H4 (.tuple (tupdAll [d0])) := fun e h => by
        simp only [tupdAll]
        exact evd_sl (vs := [y0, y1, y2]) (ws := [y0]) (ev_var h) (ex_t e sT) rfl (by show ¬ (HT.sIx 3 0 none = 0 ∧ HT.sIx 3 3 (some 1) = 3); decide) (.cons (Dp.ext e f0) .nil)
      have due2 : ∀ {σ : L2.St} {H4 : Hp}, Ex H3 H4 → σ[10]? = some (some (.ref t)) → EvD K (tSl (rSlT K) (tVar 10) tNoPart (tPart (tC (.int 2)))) σ H4 (.tuple (tupdAll [d0, d1])) := fun e h => by
        simp only [tupdAll]
        exact evd_sl (vs := [y0, y1, y2]) (ws := [y0, y1]) (ev_var h) (ex_t e sT) rfl (by show ¬ (HT.sIx 3 0 none = 0 ∧ HT.sIx 3 3 (some 2) = 3); decide) (.cons (Dp.ext e f0) (.cons (Dp.ext e f1) .nil))
      have due3 : ∀ {σ : L2.St} {H4 : Hp}, Ex H3 H4 → σ[10]? = some (some (.ref t)) → EvD K (tVar 10) σ H4 (.tuple (tupdAll [d0, d1, d2])) := fun e h => by
        simp only [tupdAll]
        exact evd_of (ev_var h) (.tup (ex_t e sT) (.cons (Dp.ext e f0) (.cons (Dp.ext e f1) (.cons (Dp.ext e f2) .nil))))
      have mk1 : ∀ {C : Addr} {wd f : Str} {σ : L2.St} {H4 : Hp} {gV : List V → List V → List V}, Ex H3 H4 → σ[5]? = some (some u0) → (∀ x : V, gV [x] [u0] = [x, u0]) → EvP (tMakeK C 0 1 (spNew K C wd [f] 5) gV E0 tNil (tCons (tVar 5) tNil)) σ H4 (PapV K C wd [f] [d0]) := fun e h hg => ep_makeK (vs := [u0]) (zs := [u0]) (ea_cons (ev_var h) ea_nil) rfl hg rfl (.cons (Dp.ext e g0) .nil) m1.1 m1.2.1 m1.2.2
      have mk2 : ∀ {C : Addr} {wd f f' : Str} {σ : L2.St} {H4 : Hp} {gV : List V → List V → List V}, Ex H3 H4 → σ[5]? = some (some u0) → σ[6]? = some (some u1) → (∀ x : V, gV [x] [u1, u0] = [x, u0, u1]) → EvP (tMakeK C 0 2 (spNew K C wd [f, f'] 5) gV E0 tNil (tCons (tVar 6) (tCons (tVar 5) tNil))) σ H4 (PapV K C wd [f, f'] [d0, d1]) := fun e h h' hg => ep_makeK (vs := [u0, u1]) (zs := [u1, u0]) (ea_cons (ev_var h') (ea_cons (ev_var h) ea_nil)) rfl hg rfl (.cons (Dp.ext e g0) (.cons (Dp.ext e g1) .nil)) m2.1 m2.2.1 m2.2.2
      have mk3 : ∀ {C : Addr} {wd f f' f'' : Str} {σ : L2.St} {H4 : Hp} {gV : List V → List V → List V}, Ex H3 H4 → σ[5]? = some (some u0) → σ[6]? = some (some u1) → σ[7]? = some (some u2) → (∀ x : V, gV [x] [u2, u1, u0] = [x, u0, u1, u2]) → EvP (tMakeK C 0 3 (spNew K C wd [f, f', f''] 5) gV E0 tNil (tCons (tVar 7) (tCons (tVar 6) (tCons (tVar 5) tNil)))) σ H4 (PapV K C wd [f, f', f''] [d0, d1, d2]) := fun e h h' h'' hg => ep_makeK (vs := [u0, u1, u2]) (zs := [u2, u1, u0]) (ea_cons (ev_var h'') (ea_cons (ev_var h') (ea_cons (ev_var h) ea_nil))) rfl hg rfl (.cons (Dp.ext e g0) (.cons (Dp.ext e g1) (.cons (Dp.ext e g2) .nil))) m3.1 m3.2.1 m3.2.2
      have up0 : ∀ p ∈ ([Item K A.cEnds "ends" ["row"] [d0] true, Item K A.cComes "comes" ["row"] [d0] true, Item K A.cNever "never" ["levels"] [d0] false, Item K A.cBack "back" ["row"] [d0] true] : List (V → Hp → Prop)), Up p := (fa_cons Item.up (fa_cons Item.up (fa_cons Item.up (fa_cons Item.up fa_nil))))
      have up1 : ∀ p ∈ ([Item K A.cKept "kept" ["levels", "frames"] [d0, d1] false, Item K A.cDeep "deep" ["most", "calls", "levels"] [d0, d1, d2] true] : List (V → Hp → Prop)), Up p := (fa_cons Item.up (fa_cons Item.up fa_nil))
      have up2 : ∀ p ∈ ([Item K A.cBottomless "bottomless" ["calls", "again"] [d0, d1] false, Item K A.cSound "sound" ["levels"] [d0] true] : List (V → Hp → Prop)), Up p := (fa_cons Item.up (fa_cons Item.up fa_nil))
      have up3 : ∀ p ∈ ([Item K A.cLoses "loses" ["row"] [d0] false, Item K A.cOuts "outs" ["row"] [d0] false] : List (V → Hp → Prop)), Up p := (fa_cons Item.up (fa_cons Item.up fa_nil))
      have up4 : ∀ p ∈ ([Item K A.cDenial "odd" [] [d0, d1] false, Item K A.cPaper "odd" [] [d0] true] : List (V → Hp → Prop)), Up p := (fa_cons Item.up (fa_cons Item.up fa_nil))
      have E0_ : Ex H3 H3 := Ex.refl H3
      refine q_asgP (ea_lst up0 (eas_cons Item.up (ep_item (mk1 E0_ rfl (fun _ => rfl)) (due1 E0_ rfl)) (eas_cons Item.up (ep_item (mk1 E0_ rfl (fun _ => rfl)) (due1 E0_ rfl)) (eas_cons Item.up (ep_item (mk1 E0_ rfl (fun _ => rfl)) (due1 E0_ rfl)) (eas_cons Item.up (ep_item (mk1 E0_ rfl (fun _ => rfl)) (due1 E0_ rfl)) eas_nil)))) (by show 4 ≤ 1000; decide)) fun v0 J0 a0 r0 => ?_
      have b0 : Ex H3 J0 := a0
      refine q_asgP (ea_cat up0 up1 (ep_var (LstA.up up0) rfl r0) (ea_lst up1 (eas_cons Item.up (ep_item (mk2 b0 rfl rfl (fun _ => rfl)) (due2 b0 rfl)) (eas_cons Item.up (ep_item (mk3 b0 rfl rfl rfl (fun _ => rfl)) (due3 b0 rfl)) eas_nil)) (by show 2 ≤ 1000; decide)) (by show 4 + 2 ≤ 1000; decide)) fun v1 J1 a1 r1 => ?_
      have b1 : Ex H3 J1 := b0.trans a1
      have uq1 := fa_app up0 up1
      refine q_asgP (ea_cat uq1 up2 (ep_var (LstA.up uq1) rfl r1) (ea_lst up2 (eas_cons Item.up (ep_item (mk2 b1 rfl rfl (fun _ => rfl)) (due2 b1 rfl)) (eas_cons Item.up (ep_item (mk1 b1 rfl (fun _ => rfl)) (due1 b1 rfl)) eas_nil)) (by show 2 ≤ 1000; decide)) (by show 6 + 2 ≤ 1000; decide)) fun v2 J2 a2 r2 => ?_
      have b2 : Ex H3 J2 := b1.trans a2
      have uq2 := fa_app uq1 up2
      refine q_asgP (ea_cat uq2 up3 (ep_var (LstA.up uq2) rfl r2) (ea_lst up3 (eas_cons Item.up (ep_item (mk1 b2 rfl (fun _ => rfl)) (due1 b2 rfl)) (eas_cons Item.up (ep_item (mk1 b2 rfl (fun _ => rfl)) (due1 b2 rfl)) eas_nil)) (by show 2 ≤ 1000; decide)) (by show 8 + 2 ≤ 1000; decide)) fun v3 J3 a3 r3 => ?_
      have b3 : Ex H3 J3 := b2.trans a3
      have uq3 := fa_app uq2 up3
      refine q_asgP (ea_cat uq3 up4 (ep_var (LstA.up uq3) rfl r3) (ea_lst up4 (eas_cons Item.up (ep_item (ep_makeR (n := 5) KK.tDenial.cl KK.tDenial.no (ea_cons ev_c (ea_cons (ev_var rfl) (ea_cons (ev_var rfl) ea_nil))) (.cons (Dp.ext b3 g0) (.cons (Dp.ext b3 g1) .nil)) m2.1 m2.2.1 m2.2.2) (due2 b3 rfl)) (eas_cons Item.up (ep_item (ep_makeR (n := 5) KK.tPaper.cl KK.tPaper.no (ea_cons ev_c (ea_cons (ev_var rfl) ea_nil)) (.cons (Dp.ext b3 g0) .nil) m1.1 m1.2.1 m1.2.2) (due1 b3 rfl)) eas_nil)) (by show 2 ≤ 1000; decide)) (by show 10 + 2 ≤ 1000; decide)) fun v4 J4 a4 r4 => ?_
      have b4 : Ex H3 J4 := b3.trans a4
      have uq4 := fa_app uq3 up4
      have wdOk : ∀ {x : Str}, (decide (x ∈ (["ends", "comes", "never", "back", "kept", "deep", "bottomless", "sound", "loses", "outs", "odd"] : List Str))) = true → Small 0 200 (.str x) := fun {x} h => word_small (of_decide_eq_true h)
      have it0 : ∀ p ∈ ([Item K A.cEnds "ends" ["row"] [d0] true, Item K A.cComes "comes" ["row"] [d0] true, Item K A.cNever "never" ["levels"] [d0] false, Item K A.cBack "back" ["row"] [d0] true] : List (V → Hp → Prop)), ∀ v H, p v H → ITm K A v H := (fa_cons (fun v H h => ⟨_, _, _, _, _, _, _, h, KK.tEnds, .inl ⟨rfl, rfl⟩, row_small (wdOk (by decide +kernel)) S1 (by show 1 ≤ 3; decide)⟩) (fa_cons (fun v H h => ⟨_, _, _, _, _, _, _, h, KK.tComes, .inl ⟨rfl, rfl⟩, row_small (wdOk (by decide +kernel)) S1 (by show 1 ≤ 3; decide)⟩) (fa_cons (fun v H h => ⟨_, _, _, _, _, _, _, h, KK.tNever, .inr ⟨rfl, rfl⟩, row_small (wdOk (by decide +kernel)) S1 (by show 1 ≤ 3; decide)⟩) (fa_cons (fun v H h => ⟨_, _, _, _, _, _, _, h, KK.tBack, .inl ⟨rfl, rfl⟩, row_small (wdOk (by decide +kernel)) S1 (by show 1 ≤ 3; decide)⟩) fa_nil))))
      have it1 : ∀ p ∈ ([Item K A.cKept "kept" ["levels", "frames"] [d0, d1] false, Item K A.cDeep "deep" ["most", "calls", "levels"] [d0, d1, d2] true] : List (V → Hp → Prop)), ∀ v H, p v H → ITm K A v H := (fa_cons (fun v H h => ⟨_, _, _, _, _, _, _, h, KK.tKept, .inr ⟨rfl, rfl⟩, row_small (wdOk (by decide +kernel)) S2 (by show 2 ≤ 3; decide)⟩) (fa_cons (fun v H h => ⟨_, _, _, _, _, _, _, h, KK.tDeep, .inl ⟨rfl, rfl⟩, row_small (wdOk (by decide +kernel)) S3 (by show 3 ≤ 3; decide)⟩) fa_nil))
      have it2 : ∀ p ∈ ([Item K A.cBottomless "bottomless" ["calls", "again"] [d0, d1] false, Item K A.cSound "sound" ["levels"] [d0] true] : List (V → Hp → Prop)), ∀ v H, p v H → ITm K A v H := (fa_cons (fun v H h => ⟨_, _, _, _, _, _, _, h, KK.tBottomless, .inr ⟨rfl, rfl⟩, row_small (wdOk (by decide +kernel)) S2 (by show 2 ≤ 3; decide)⟩) (fa_cons (fun v H h => ⟨_, _, _, _, _, _, _, h, KK.tSound, .inl ⟨rfl, rfl⟩, row_small (wdOk (by decide +kernel)) S1 (by show 1 ≤ 3; decide)⟩) fa_nil))
      have it3 : ∀ p ∈ ([Item K A.cLoses "loses" ["row"] [d0] false, Item K A.cOuts "outs" ["row"] [d0] false] : List (V → Hp → Prop)), ∀ v H, p v H → ITm K A v H := (fa_cons (fun v H h => ⟨_, _, _, _, _, _, _, h, KK.tLoses, .inr ⟨rfl, rfl⟩, row_small (wdOk (by decide +kernel)) S1 (by show 1 ≤ 3; decide)⟩) (fa_cons (fun v H h => ⟨_, _, _, _, _, _, _, h, KK.tOuts, .inr ⟨rfl, rfl⟩, row_small (wdOk (by decide +kernel)) S1 (by show 1 ≤ 3; decide)⟩) fa_nil))
      have it4 : ∀ p ∈ ([Item K A.cDenial "odd" [] [d0, d1] false, Item K A.cPaper "odd" [] [d0] true] : List (V → Hp → Prop)), ∀ v H, p v H → ITm K A v H := (fa_cons (fun v H h => ⟨_, _, _, _, _, _, _, h, KK.tDenial, .inr ⟨rfl, rfl⟩, row_small (wdOk (by decide +kernel)) S2 (by show 2 ≤ 3; decide)⟩) (fa_cons (fun v H h => ⟨_, _, _, _, _, _, _, h, KK.tPaper, .inl ⟨rfl, rfl⟩, row_small (wdOk (by decide +kernel)) S1 (by show 1 ≤ 3; decide)⟩) fa_nil))
      have itA := fa_app (fa_app (fa_app (fa_app it0 it1) it2) it3) it4
      obtain ⟨a8, ls, rfl, ha8, hls⟩ := r4
      have its := alls_all hls itA
      have hv8 : LstA _ (.ref a8) J4 := ⟨a8, ls, rfl, ha8, hls⟩
      change tSeq _ _ _ [x0, some (.ref p), some (.int i), some (.ref D), x4, some u0, some u1, some u2, x8, x9, some (.ref t), some (.ref a8), x12, x13, x14, x15, x16] _
      refine q_when (b := false) (et_is (et_test (ev_opLL (el_lcNo (ev_var rfl) (sq_of ha8) fun n9 u H9 hu e9 => ?_) (el_lst ea_nil (by decide)) fun p q H1 hp hq e => rv_neD (d := .list []) (e := .list []) (.lst (sq_of hp) .nil) (.lst (sq_of hq) .nil) rfl rfl)) rfl) (fun h => nomatch h) fun _ J5 a5 => ?_
      · obtain ⟨C, wd, names, ds, b, nm, bf, ⟨tt, pv_, cv, hu1, htt, hpv, hcv⟩, ct, hb, sm⟩ := its u (List.mem_of_getElem? hu)
        obtain ⟨a, dx_, fs_, hva, hx_, pa⟩ := hpv.pap
        obtain ⟨dx, fs, ho, hw, v, hv, hd⟩ := pa.at_
        subst hva
        refine ⟨[x0, some (.ref p), some (.int i), some (.ref D), x4, some u0, some u1, some u2, x8, x9, some (.ref t), some (.ref a8), some (.ref a), some (.str wd), some cv, some (.bl b), x16], Eq.trans (b := ([x0, some (.ref p), some (.int i), some (.ref D), x4, some u0, some u1, some u2, x8, x9, some (.ref t), some (.ref a8), none, none, none, none, x16] : L2.St)) rfl rfl, fun Q q => ⟨tt, _, hu1, st_of (e9 tt _ htt), rfl, _, _, rfl, _, _, rfl, _, _, rfl, _, _, rfl, rfl, q⟩, ?_⟩
        exact et_same (d := .list [.str wd, .tuple (tupdAll ds), .bool b, .bool (!b)]) (evd_lst (evds_cons (evd_of (ev_fld (ev_var rfl) (e9 a _ ho) ct.cl (ct.no _ (by decide)) hw) (.str wd)) (evds_cons (evd_of (ev_fld (ev_var rfl) (e9 a _ ho) ct.cl (ct.no _ (by decide)) hv) (Dp.ext e9 hd)) (evds_cons (evd_of (ev_boolP (ev_var rfl) (e9 a _ ho) ct.bo hb) (.bl b)) (evds_cons (evd_of (ev_cb (ea_cons (ev_var rfl) (ea_cons ev_c ea_nil)) (rc_isiI (e9 a _ ho) ct.cl ct.nm ct.den)) (.bl (!b))) evds_nil)))) (by show 4 ≤ 100000; decide)) (evd_lst (evds_cons (evd_of (ev_var rfl) (.str wd)) (evds_cons (evd_of (ev_var rfl) (Dp.ext e9 hcv)) (evds_cons (evd_of (ev_var rfl) (.bl b)) (evds_cons (evd_of (ev_notV (ev_var rfl)) (.bl (!b))) evds_nil)))) (by show 4 ≤ 100000; decide)) sm (by decide) (by decide)
      have b5 : Ex H3 J5 := b4.trans a5
      have hv5 := LstA.up (fa_app (fa_app (fa_app (fa_app up0 up1) up2) up3) up4) _ J4 J5 a5 hv8
      have upA := fa_app (fa_app (fa_app (fa_app up0 up1) up2) up3) up4
      have sT5 : SqT K J5 t [y0, y1, y2] := ex_t b5 sT
      have F0 := Dp.ext b5 f0
      have F1 := Dp.ext b5 f1
      have F2 := Dp.ext b5 f2
      refine q_when (b := false) (et_same (d := .list [tupd d0, tupd d0, tupd d1, tupd d1, tupd d1])
        (evd_lst (evds_cons (evd_fld (ep_ixItem (ep_ixL (j := 0) (ep_var (LstA.up upA) rfl hv5) rfl rfl)) KK.tEnds.cl (KK.tEnds.no _ (by decide)) (fun q us hl => match us, hl with | [z], _ => ⟨0, z, rfl, rfl, by simp [tupdAll]⟩))
          (evds_cons (evd_fld (ep_ixItem (ep_ixL (j := 4) (ep_var (LstA.up upA) rfl hv5) rfl rfl)) KK.tKept.cl (KK.tKept.no _ (by decide)) (fun q us hl => match us, hl with | [z, z'], _ => ⟨0, z, rfl, rfl, by simp [tupdAll]⟩))
          (evds_cons (evd_fld (ep_ixItem (ep_ixL (j := 4) (ep_var (LstA.up upA) rfl hv5) rfl rfl)) KK.tKept.cl (KK.tKept.no _ (by decide)) (fun q us hl => match us, hl with | [z, z'], _ => ⟨1, z', rfl, rfl, by simp [tupdAll]⟩))
          (evds_cons (evd_fld (ep_ixItem (ep_ixL (j := 5) (ep_var (LstA.up upA) rfl hv5) rfl rfl)) KK.tDeep.cl (KK.tDeep.no _ (by decide)) (fun q us hl => match us, hl with | [z, z', z''], _ => ⟨1, z', rfl, rfl, by simp [tupdAll]⟩))
          (evds_cons (evd_fld (ep_ixItem (ep_ixL (j := 6) (ep_var (LstA.up upA) rfl hv5) rfl rfl)) KK.tBottomless.cl (KK.tBottomless.no _ (by decide)) (fun q us hl => match us, hl with | [z, z'], _ => ⟨1, z', rfl, rfl, by simp [tupdAll]⟩)) evds_nil))))) (by show 5 ≤ 100000; decide))
        (evd_lst (evds_cons (evd_of (ev_op (ev_var rfl) ev_c (rv_ixT sT5 rfl)) F0) (evds_cons (evd_of (ev_op (ev_var rfl) ev_c (rv_ixT sT5 rfl)) F0) (evds_cons (evd_of (ev_op (ev_var rfl) ev_c (rv_ixT sT5 rfl)) F1) (evds_cons (evd_of (ev_op (ev_var rfl) ev_c (rv_ixT sT5 rfl)) F1) (evds_cons (evd_of (ev_op (ev_var rfl) ev_c (rv_ixT sT5 rfl)) F1) evds_nil))))) (by show 5 ≤ 100000; decide))
        ((Smalls.cons sm0.tupd (.cons sm0.tupd (.cons sm1.tupd (.cons sm1.tupd (.cons sm1.tupd .nil))))).list (V := 19100) (by show 5 * (3819 + 1) ≤ 19100; decide)) (by decide) (by decide)) (fun h => nomatch h) fun _ J6 a6 => ?_
      have b6 : Ex H3 J6 := b5.trans a6
      have sT6 : SqT K J6 t [y0, y1, y2] := ex_t b6 sT
      have d0e : ∀ {H : Hp}, Ex H3 H → Dp K H u0 d0 := fun e => Dp.ext e g0
      have d1e : ∀ {H : Hp}, Ex H3 H → Dp K H u1 d1 := fun e => Dp.ext e g1
      have R1 : Smalls 3 3819 [tupd d0] := .cons sm0.tupd .nil
      have R2 : Smalls 3 3819 [tupd d0, tupd d1] := .cons sm0.tupd (.cons sm1.tupd .nil)
      have n1 := mk_ok R1 (by show 1 ≤ 3; decide)
      have n2 := mk_ok R2 (by show 2 ≤ 3; decide)
      have hs1 := par_shaped S1 (by show 1 ≤ 3; decide)
      have hs2 := par_shaped S2 (by show 2 ≤ 3; decide)
      have ht1 := par_shaped R1 (by show 1 ≤ 3; decide)
      have ht2 := par_shaped R2 (by show 2 ≤ 3; decide)
      have E1 : PyData.eqv (.tuple (tupdAll [d0])) (.tuple (tupdAll [tupd d0])) = true := by
        have := (R1.tuple (V := 3820) (by show 1 * (3819 + 1) ≤ 3820; decide)).refl
        simpa only [tupdAll, tupd_tupd] using this
      have E2 : PyData.eqv (.tuple (tupdAll [d0, d1])) (.tuple (tupdAll [tupd d0, tupd d1])) = true := by
        have := (R2.tuple (V := 7640) (by show 2 * (3819 + 1) ≤ 7640; decide)).refl
        simpa only [tupdAll, tupd_tupd] using this
      have fx : EvD K (tCall (spFixed K 4) [] E0 (tCons (tVar 5) tNil)) [x0, some (.ref p), some (.int i), some (.ref D), x4, some u0, some u1, some u2, x8, x9, some (.ref t), some (.ref a8), x12, x13, x14, x15, x16] J6 (tupd d0) := ep_call (EvPs.of (ea_cons (ev_var rfl) ea_nil)) fun vs J7 a7 hvs Q' q' => by
        subst hvs
        exact ⟨_, d0, [], rfl, (fun b hb => by simp at hb), d0e (fun b o hb => hid_at (by simp) (a7 b o (b6 b o hb))), sm0.cl, by have := sm0.dp; omega, by have := sm0.wt; omega, fun r H' e hd => q' r H' e (Dp.ext (hid_out _) hd)⟩
      change tSeq _ _ _ [x0, some (.ref p), some (.int i), some (.ref D), x4, some u0, some u1, some u2, x8, x9, some (.ref t), some (.ref a8), x12, x13, x14, x15, x16] _
      refine q_when (b := false) (et_is (et_or (a := false) (b := false) (et_same fx (evd_of (ev_op (ev_var rfl) ev_c (rv_ixT sT6 rfl)) (Dp.ext b6 f0)) sm0.tupd (by decide) (by decide)) fun _ => et_or (a := false) (b := false)
        (et_is (et_test (ev_neP (ep_makeD (evds_cons (evd_of (ev_var rfl) (d0e b6)) evds_nil) rfl m1.1 m1.2.1 m1.2.2) (ep_makeD (evds_cons (evd_of (ev_op (ev_var rfl) ev_c (rv_ixT sT6 rfl)) (Dp.ext b6 f0)) evds_nil) rfl n1.1 n1.2.1 n1.2.2) KK.tEnds KK.tEnds KK.nEndsEnds KK.moEnds hs1 ht1)) (by rw [E1]; simp)) fun _ =>
        et_is (et_test (ev_neP (ep_makeD (evds_cons (evd_of (ev_var rfl) (d0e b6)) (evds_cons (evd_of (ev_var rfl) (d1e b6)) evds_nil)) rfl m2.1 m2.2.1 m2.2.2) (ep_makeD (evds_cons (evd_of (ev_op (ev_var rfl) ev_c (rv_ixT sT6 rfl)) (Dp.ext b6 f0)) (evds_cons (evd_of (ev_op (ev_var rfl) ev_c (rv_ixT sT6 rfl)) (Dp.ext b6 f1)) evds_nil)) rfl n2.1 n2.2.1 n2.2.2) KK.tKept KK.tKept KK.nKeptKept KK.moKept hs2 ht2)) (by rw [E2]; simp)) rfl) (fun h => nomatch h) fun _ J7 a7 => ?_
      have b7 : Ex H3 J7 := b6.trans a7
      have P1 : Smalls 4 8000 [.tuple [d0, .int 5]] := .cons (pair5 sm0) .nil
      have P2 : Smalls 4 8000 [d0, .tuple [d1, .int 5]] := .cons (sm0.mono (by decide) (by decide)) (.cons (pair5 sm1) .nil)
      have q1 := mk_ok5 P1 (by show 1 ≤ 3; decide)
      have q2 := mk_ok5 P2 (by show 2 ≤ 3; decide)
      have hq1 := par_shaped5 P1 (by show 1 ≤ 3; decide)
      have hq2 := par_shaped5 P2 (by show 2 ≤ 3; decide)
      change tSeq _ _ _ [x0, some (.ref p), some (.int i), some (.ref D), x4, some u0, some u1, some u2, x8, x9, some (.ref t), some (.ref a8), x12, x13, x14, x15, x16] _
      refine q_when (b := false) (et_is (et_or (a := false) (b := false) (et_is (et_test (ev_eqP (ep_makeD (evds_cons (evd_of (ev_var rfl) (d0e b7)) evds_nil) rfl m1.1 m1.2.1 m1.2.2) (ep_makeD (evds_cons (evd_of (ev_var rfl) (d0e b7)) evds_nil) rfl m1.1 m1.2.1 m1.2.2) KK.tEnds KK.tComes KK.nEndsComes hs1 hs1)) (by rw [show decide (("Ends" : Str) = "Comes") = false by decide +kernel]; rfl)) fun _ => et_or (a := false) (b := false)
        (et_is (et_test (ev_eqP (ep_makeD (evds_cons (evd_of (ev_var rfl) (d0e b7)) evds_nil) rfl m1.1 m1.2.1 m1.2.2) (ep_makeR (n := 5) KK.tPaper.cl KK.tPaper.no (ea_cons ev_c (ea_cons (ev_var rfl) ea_nil)) (.cons (d0e b7) .nil) m1.1 m1.2.1 m1.2.2) KK.tEnds KK.tPaper KK.nEndsPaper hs1 hs1)) (by rw [show decide (("Ends" : Str) = "Paper") = false by decide +kernel]; rfl)) fun _ => et_or (a := false) (b := false)
        (et_not (a := true) (et_is (et_test (ev_neP (ep_makeD (evds_cons (evd_of (ev_var rfl) (d0e b7)) evds_nil) rfl m1.1 m1.2.1 m1.2.2) (ep_makeD (evds_cons (evd_tup (evds_cons (evd_of (ev_var rfl) (d0e b7)) (evds_cons (evd_of ev_c (.int 5)) evds_nil)) (by show 2 ≤ 100000; decide)) evds_nil) rfl q1.1 q1.2.1 q1.2.2) KK.tEnds KK.tEnds KK.nEndsEnds KK.moEnds hs1 hq1)) (by rw [one5]; simp))) fun _ =>
        et_is (et_test (ev_eqP (ep_makeD (evds_cons (evd_of (ev_var rfl) (d0e b7)) (evds_cons (evd_of (ev_var rfl) (d1e b7)) evds_nil)) rfl m2.1 m2.2.1 m2.2.2) (ep_makeD (evds_cons (evd_of (ev_var rfl) (d0e b7)) (evds_cons (evd_tup (evds_cons (evd_of (ev_var rfl) (d1e b7)) (evds_cons (evd_of ev_c (.int 5)) evds_nil)) (by show 2 ≤ 100000; decide)) evds_nil)) rfl q2.1 q2.2.1 q2.2.2) KK.tKept KK.tKept KK.nKeptKept hs2 hq2)) (by rw [two5]; simp)) rfl) (fun h => nomatch h) fun _ J8 a8' => ?_
      have b8 : Ex H3 J8 := b7.trans a8'
      have hk : isIntD d0 = ((isIntD d0 || isBoolD d0) && !isBoolD d0) := by cases d0 <;> rfl
      refine s_when (b := false) (et_same (d := .list [.bool (isIntD d0), .bool (isSeqD d0), .bool (inB d0 0 1)])
        (evd_lst (evds_cons (evd_of (ev_call (z := .bl (isIntD d0)) (ea_cons (ev_var rfl) ea_nil) (spv_chk (φ := isIntD) (d0e b8) sm0.cl)) (.bl _)) (evds_cons (evd_of (ev_call (z := .bl (isSeqD d0)) (ea_cons (ev_var rfl) ea_nil) (spv_chk (φ := isSeqD) (d0e b8) sm0.cl)) (.bl _)) (evds_cons (evd_of (ev_call (z := .bl (inB d0 0 1)) (ea_cons (ev_var rfl) (ea_cons ev_c (ea_cons ev_c ea_nil))) fun H5 e5 Q' q' E' => ⟨u0, d0, 0, 1, rfl, d0e (b8.trans e5), sm0.cl, fun H6 e6 => q' H6 e6⟩) (.bl _)) evds_nil))) (by show 3 ≤ 100000; decide))
        (evd_lst (evds_cons (evd_of (ev_is (ev_andV (ev_cb (ea_cons (ev_var rfl) (ea_cons ev_c ea_nil)) (rc_isi (d0e b8) (isi_int d0 sm0.cl))) fun _ => ev_notV (ev_cb (ea_cons (ev_var rfl) (ea_cons ev_c ea_nil)) (rc_isi (d0e b8) (isi_bool d0 sm0.cl)))) (by rw [← hk])) (.bl _)) (evds_cons (evd_of (ev_isiLT (ev_var rfl) (d0e b8) sm0.cl) (.bl _)) (evds_cons (evd_of (ev_is (ev_call (z := .bl (numB d0 2)) (ea_cons (ev_var rfl) (ea_cons ev_c ea_nil)) fun H5 e5 Q' q' E' => ⟨u0, d0, 2, rfl, d0e (b8.trans e5), sm0.cl, fun H6 e6 => q' H6 e6⟩) (by rw [inB_numB])) (.bl _)) evds_nil))) (by show 3 ≤ 100000; decide))
        (((Smalls.cons (small_bool _) (.cons (small_bool _) (.cons (small_bool _) .nil))).list (n := 0) (W := 200) (V := 603) (by show 3 * (200 + 1) ≤ 603; decide)).mono (m := 64) (V := 300000) (by decide) (by decide)) (by decide) (by decide)) (fun h => nomatch h) fun _ J9 a9 => ?_
      exact ⟨p, _, _, _, _, _, _, _, _, _, _, _, _, _, _, _, _, rfl, hp3.ext (b8.trans a9)⟩
    · obtain ⟨p, x0, x2, x3, x4, x5, x6, x7, x8, x9, x10, x11, x12, x13, x14, x15, x16, rfl, hp⟩ := h
      refine q_asgQ ⟨⟨_, rfl⟩, lc_pick (L := [.str "a", .str "z", .str "m", .str "A", .str "1", .str " ", .str "_"]) (b := 500) rfl (by decide) (by decide) (hp.less (by decide)) (fun x => rfl) (by decide) (by decide) (fun i H'' R h => ⟨_, rfl, by show 7 ≤ sizeLine; decide, fun l hl => h l hl⟩) fun D H1 acc hp1 s1 hacc hlen hin => ?_⟩
      obtain ⟨ws, rfl, hws⟩ := strs_of (L := ["a", "z", "m", "A", "1", " ", "_"]) hin
      have hw1 : ∀ y ∈ ws, y.length ≤ 1 ∧ PyData.strOk y = true := fun y hy => (by decide +kernel : ∀ y ∈ (["a", "z", "m", "A", "1", " ", "_"] : List Str), y.length ≤ 1 ∧ PyData.strOk y = true) y (hws y hy)
      have hj := join_ok hw1
      have hln : ws.length < 11 := by simpa using hlen
      refine ⟨_, D, ws, rfl, rfl, .inl (sq_of hacc), ?_, ?_⟩
      · have := sum_le1 (fun y hy => (hw1 y hy).1)
        show (ws.map (·.length)).sum + ws.length * 0 ≤ 16777216
        omega
      obtain ⟨hwl, hwk⟩ := hj
      generalize Txt.join (Str.ofString "") ws = word at hwl hwk ⊢
      refine q_asgQ (lc_pick (L := [.str "a", .str "b", .str "zz", .str word]) (b := 400) rfl (by decide) (by decide) (hp1.less (by decide)) (fun x => rfl) (by show 0 < 4; decide) (by show 4 < 1000000; decide) (fun i H'' R h => ⟨_, rfl, _, rfl, by show 4 ≤ sizeLine; decide, fun l hl => h l hl⟩) fun D2 H2 acc2 hp2 s2 hacc2 hlen2 hin2 => ?_)
      obtain ⟨xs, rfl, hxs⟩ := strs_of (L := ["a", "b", "zz", word]) hin2
      have hx : ∀ x ∈ xs, x.length ≤ 40000 ∧ PyData.strOk x = true := fun x hx => by
        have h := hxs x hx
        simp only [List.mem_cons, List.not_mem_nil, or_false] at h
        rcases h with rfl | rfl | rfl | rfl
        · exact ⟨by decide +kernel, by decide +kernel⟩
        · exact ⟨by decide +kernel, by decide +kernel⟩
        · exact ⟨by decide +kernel, by decide +kernel⟩
        · exact ⟨by omega, hwk⟩
      have hx2 : (xs.all fun x => PyData.strOk x) = true := List.all_eq_true.mpr fun x h => (hx x h).2
      have hln2 : xs.length ≤ 3 := by
        have : xs.length < 4 := by simpa using hlen2
        omega
      have q := el_lcL (K := K) (σ := [x0, some (.ref p), x2, x3, x4, x5, x6, x7, x8, x9, x10, x11, x12, some (.str word), x14, x15, some (.ref D2)]) (H := H2) (a := D2) (xs := xs.map V.str) (tl := tVar 16) (te := tC (.int 1)) (t := tNot (tB (tCall (spName K) [] E0 (tCons (tVar 5) tNil)))) (j := 5) (vs := [5]) (fun i => !nameB (xs.getD i Str.empty)) (fun _ => .int 1) (ev_var rfl) (sq_of hacc2) (by rw [List.length_map]; omega) (fun z => rfl) (fun i c H3 e hc => by
        rw [List.getElem?_map, Option.map_eq_some_iff] at hc
        obtain ⟨x, hxi, rfl⟩ := hc
        have hg : xs.getD i Str.empty = x := by rw [List.getD_eq_getElem?_getD, hxi]; rfl
        rw [hg]
        have hm := hx x (List.mem_of_getElem? hxi)
        exact et_not (et_B (ev_call (ea_cons (ev_var rfl) ea_nil) fun H3 e3 Q' q' E' => ⟨x, rfl, hm.1, hm.2, fun H4 e4 => q' H4 e4⟩))) (fun i c H3 e hc _ => ev_c)
      rw [List.length_map] at q
      have hdue : Ev (tAndV (tOp (rEqD K) (tLc (iList K (tVar 16)) (gName 5) (tNot (tB (tCall (spName K) [] E0 (tCons (tVar 5) tNil)))) (tC (.int 1)) [5]) (tLst tNil)) (tOp rEq (tLenSetS K (tVar 16)) (tCB (rLenS K) (tCons (tVar 16) tNil)))) [x0, some (.ref p), x2, x3, x4, x5, x6, x7, x8, x9, x10, x11, x12, some (.str word), x14, x15, some (.ref D2)] H2 (.bl (namesB xs 3)) := by
        rw [names3 hln2]
        refine ev_andV (ev_is (ev_opLL q (el_lst ea_nil (by decide)) fun p' q' H1 hp hq e => rv_eqD (d := .list (((List.range xs.length).filter fun i => !nameB (xs.getD i Str.empty)).map fun _ => PyData.int 1)) (e := .list []) (.lst (sq_of hp) (dp_ones _)) (.lst (sq_of hq) .nil) (shaped_ones _) rfl) ?_) fun _ => ev_is (ev_op (x := .int (many xs.reverse)) (y := .int xs.length) (fun H3 e3 Q' q => ⟨_, rfl, D2, xs, rfl, .inl (sq_of (e3 D2 _ hacc2)), by unfold scanBound; omega, q H3 (Ex.refl H3)⟩) (ev_is (ev_len (ev_var rfl) (sq_of hacc2)) (by rw [List.length_map])) (rv_eq rfl)) ?_
        · rw [eqv_empty, filter_all, all_range]
        · by_cases h : many xs.reverse = xs.length
          · simp [h]
          · have : ¬ ((many xs.reverse : Int) = (xs.length : Int)) := by omega
            simp [h, this]
      refine q_asg hdue fun H3 e3 => ?_
      have sq3 : SqL K H3 D2 (xs.map V.str) := sq_of (e3 D2 _ hacc2)
      have hall : Small 64 300000 (.list [.bool (nameB word), .bool (namesB xs 3), .bool false, .bool false]) := ((Smalls.cons (small_bool _) (.cons (small_bool _) (.cons (small_bool _) (.cons (small_bool _) .nil)))).list (n := 0) (W := 200) (V := 804) (by show 4 * (200 + 1) ≤ 804; decide)).mono (by decide) (by decide)
      refine s_ret (v := .bl true) (ev_sameR (d := .list [.bool (nameB word), .bool (namesB xs 3), .bool false, .bool false]) (evd_lst (evds_cons (evd_of (ev_call (z := .bl (nameB word)) (ea_cons (ev_var rfl) ea_nil) fun H4 e4 Q' q' E' => ⟨word, rfl, by omega, hwk, fun H5 e5 => q' H5 e5⟩) (.bl _)) (evds_cons (evd_of (ev_call (z := .bl (namesB xs 3)) (ea_cons (ev_var rfl) (ea_cons ev_c ea_nil)) fun H4 e4 Q' q' E' => ⟨.ref D2, 3, rfl, .inl ⟨D2, xs, rfl, ex_l e4 sq3, by omega, hx, fun H5 e5 => q' H5 e5⟩⟩) (.bl _)) (evds_cons ?_ (evds_cons (evd_of (ev_call (z := .bl false) (ea_cons (ev_var rfl) (ea_cons ev_c ea_nil)) fun H4 e4 Q' q' E' => ⟨.str word, 9, rfl, .inr (.inr ⟨word, rfl, hwk, fun H5 e5 => q' H5 e5⟩)⟩) (.bl _)) evds_nil)))) (by show 4 ≤ 100000; decide)) (evd_lst (evds_cons (evd_of (ev_call (z := .bl (nameB word)) (ea_cons (ev_var rfl) ea_nil) fun H4 e4 Q' q' E' => ⟨word, rfl, by omega, hwk, fun H5 e5 => q' H5 e5⟩) (.bl _)) (evds_cons (evd_of (ev_var rfl) (.bl _)) (evds_cons (evd_of ev_c (.bl _)) (evds_cons (evd_of ev_c (.bl _)) evds_nil)))) (by show 4 ≤ 100000; decide)) hall (by decide) (by decide)) fun H4 e4 => k H4
      refine (ep_call (P := fun v _ => v = .bl false) (ep_cons (P := fun v H' => ∃ l, v = .ref l ∧ H3 l = none ∧ H' l = some (.tup (xs.map V.str))) (Ps := fun vs _ => vs = [.int ((xs.length : Int) - 1)]) (fun v H5 H6 e6 ⟨l, h5, h6, h7⟩ => ⟨l, h5, h6, e6 l _ h7⟩) (EvP.ofU (eu_tupV (ev_var rfl) sq3)) (EvPs.of (ea_cons (ev_op (ev_is (ev_len (ev_var rfl) sq3) (by rw [List.length_map])) ev_c rv_I0) ea_nil))) fun vs H4 e4 ⟨u, us, h1, ⟨l, h2, _, h3⟩, h4⟩ Q' q' => ?_).imp fun v H4 _ h => by subst h; exact .bl false
      subst h1 h2 h4
      exact ⟨.ref l, _, rfl, .inr (.inl ⟨l, xs, rfl, st_of h3, hx2, by omega, fun H5 e5 => q' _ H5 e5 rfl⟩)⟩
end

/-! ### the head -/
def papB (c b : Str) (den : Bool) (K : PySem.W.Frag) : Bool := clsNmB K (He.ga K c) c && (He.eqO (PySem.W.findIn K (.ref (He.ga K c)) "__eq__") (some (some (.ref (He.ma K (He.ga K "Paper") "__eq__")))) && (He.eqO (PySem.W.findIn K (.ref (He.ga K c)) "__ne__") (some (some (.builtin "object.__ne__"))) &&
  (He.eqO (PySem.W.findIn K (.ref (He.ga K c)) "__bool__") (some (some (.ref (He.ma K (He.ga K b) "__bool__")))) && (decide (PySem.W.kitOne K (.ref (He.ga K c)) (.ref (He.ga K "Paper")) = some true) && decide (PySem.W.kitOne K (.ref (He.ga K c)) (.ref (He.ga K "Denial")) = some den)))))
def ad (K : PySem.W.Frag) : Ad where
  aIsInteger := He.ga K "is_integer"
  aIsWithin := He.ga K "is_within"
  aIsListed := He.ga K "is_listed"
  aIsName := He.ga K "is_name"
  aAreNames := He.ga K "are_names"
  aPen := He.ga K "_law_pen"
  aDraw := He.ga K "_law_draw"
  aPick := He.ga K "_law_pick"
  aPlIsNumber := He.ga K "_law_pl_is_number"
  aPlIsName := He.ga K "_law_pl_is_name"
  aFixed := He.ga K "fixed"
  aAny := He.ga K "_law_any"
  aLaw := He.ga K "law"
  aPInit := He.ma K (He.ga K "Paper") "__init__"
  aPEq := He.ma K (He.ga K "Paper") "__eq__"
  aPBool := He.ma K (He.ga K "Paper") "__bool__"
  aDBool := He.ma K (He.ga K "Denial") "__bool__"
  aBackI := He.ma K (He.ga K "Back") "__init__"
  aKeptI := He.ma K (He.ga K "Kept") "__init__"
  aDeepI := He.ma K (He.ga K "Deep") "__init__"
  aBottomlessI := He.ma K (He.ga K "Bottomless") "__init__"
  aEndsI := He.ma K (He.ga K "Ends") "__init__"
  aComesI := He.ma K (He.ga K "Comes") "__init__"
  aNeverI := He.ma K (He.ga K "Never") "__init__"
  aSoundI := He.ma K (He.ga K "Sound") "__init__"
  aLosesI := He.ma K (He.ga K "Loses") "__init__"
  aOutsI := He.ma K (He.ga K "Outs") "__init__"
  cPaper := He.ga K "Paper"
  cDenial := He.ga K "Denial"
  cBack := He.ga K "Back"
  cKept := He.ga K "Kept"
  cDeep := He.ga K "Deep"
  cBottomless := He.ga K "Bottomless"
  cEnds := He.ga K "Ends"
  cComes := He.ga K "Comes"
  cNever := He.ga K "Never"
  cSound := He.ga K "Sound"
  cLoses := He.ga K "Loses"
  cOuts := He.ga K "Outs"
def fa : List He.Fa := [.glo "is_integer", .glo "is_within", .glo "is_listed", .glo "is_name", .glo "are_names", .glo "_law_pen", .glo "_law_draw", .glo "_law_pick", .glo "_law_pl_is_number", .glo "_law_pl_is_name", .glo "fixed", .glo "_law_any", .glo "law", .free "int", .free "len", .free "abs", .free "list", .free "tuple", .free "isinstance", .free "bool", .free "str", .free "all", .free "repr", .free "set", .free "range", .glo "Paper", .glo "Denial", .glo "Back", .glo "Kept", .glo "Deep", .glo "Bottomless", .glo "Ends", .glo "Comes", .glo "Never", .glo "Sound", .glo "Loses", .glo "Outs", .cls "Paper", .cls "Denial", .cls "Back"] ++ ([.cls "Kept", .cls "Deep", .cls "Bottomless", .cls "Ends", .cls "Comes", .cls "Never", .cls "Sound", .cls "Loses", .cls "Outs", .mkr "Paper", .mkr "Denial", .mkr "Back", .mkr "Kept", .mkr "Deep", .mkr "Bottomless", .mkr "Ends", .mkr "Comes", .mkr "Never", .mkr "Sound", .mkr "Loses", .mkr "Outs", .str "LETTERS" "abcdefghijklmnopqrstuvwxyz", .noat "Paper" "word", .noat "Paper" "parts", .noat "Paper" "row", .noat "Paper" "levels", .noat "Paper" "frames", .noat "Paper" "most", .noat "Paper" "calls", .noat "Paper" "again", .noat "Denial" "word", .noat "Denial" "parts", .noat "Denial" "row", .noat "Denial" "levels", .noat "Denial" "frames", .noat "Denial" "most", .noat "Denial" "calls", .noat "Denial" "again", .noat "Back" "word", .noat "Back" "parts"] : List He.Fa) ++ ([.noat "Back" "row", .noat "Back" "levels", .noat "Back" "frames", .noat "Back" "most", .noat "Back" "calls", .noat "Back" "again", .noat "Kept" "word", .noat "Kept" "parts", .noat "Kept" "row", .noat "Kept" "levels", .noat "Kept" "frames", .noat "Kept" "most", .noat "Kept" "calls", .noat "Kept" "again", .noat "Deep" "word", .noat "Deep" "parts", .noat "Deep" "row", .noat "Deep" "levels", .noat "Deep" "frames", .noat "Deep" "most", .noat "Deep" "calls", .noat "Deep" "again", .noat "Bottomless" "word", .noat "Bottomless" "parts", .noat "Bottomless" "row", .noat "Bottomless" "levels", .noat "Bottomless" "frames", .noat "Bottomless" "most", .noat "Bottomless" "calls", .noat "Bottomless" "again", .noat "Ends" "word", .noat "Ends" "parts", .noat "Ends" "row", .noat "Ends" "levels", .noat "Ends" "frames", .noat "Ends" "most", .noat "Ends" "calls", .noat "Ends" "again", .noat "Comes" "word", .noat "Comes" "parts"] : List He.Fa) ++ ([.noat "Comes" "row", .noat "Comes" "levels", .noat "Comes" "frames", .noat "Comes" "most", .noat "Comes" "calls", .noat "Comes" "again", .noat "Never" "word", .noat "Never" "parts", .noat "Never" "row", .noat "Never" "levels", .noat "Never" "frames", .noat "Never" "most", .noat "Never" "calls", .noat "Never" "again", .noat "Sound" "word", .noat "Sound" "parts", .noat "Sound" "row", .noat "Sound" "levels", .noat "Sound" "frames", .noat "Sound" "most", .noat "Sound" "calls", .noat "Sound" "again", .noat "Loses" "word", .noat "Loses" "parts", .noat "Loses" "row", .noat "Loses" "levels", .noat "Loses" "frames", .noat "Loses" "most", .noat "Loses" "calls", .noat "Loses" "again", .noat "Outs" "word", .noat "Outs" "parts", .noat "Outs" "row", .noat "Outs" "levels", .noat "Outs" "frames", .noat "Outs" "most", .noat "Outs" "calls", .noat "Outs" "again"] : List He.Fa)
def fn : List He.DefD := [⟨("is_integer", none), "is_integer", "is_integer", defArgs sIsInteger, defBody sIsInteger, defScope sIsInteger, [], []⟩, ⟨("is_within", none), "is_within", "is_within", defArgs sIsWithin, defBody sIsWithin, defScope sIsWithin, [], []⟩, ⟨("is_listed", none), "is_listed", "is_listed", defArgs sIsListed, defBody sIsListed, defScope sIsListed, [], []⟩, ⟨("is_name", none), "is_name", "is_name", defArgs sIsName, defBody sIsName, defScope sIsName, [], []⟩, ⟨("are_names", none), "are_names", "are_names", defArgs sAreNames, defBody sAreNames, defScope sAreNames, [], []⟩, ⟨("_law_pen", none), "_law_pen", "_law_pen", defArgs sPen, defBody sPen, defScope sPen, [], []⟩, ⟨("_law_draw", none), "_law_draw", "_law_draw", defArgs sDraw, defBody sDraw, defScope sDraw, [], []⟩, ⟨("_law_pick", none), "_law_pick", "_law_pick", defArgs sPick, defBody sPick, defScope sPick, [], []⟩, ⟨("_law_pl_is_number", none), "_law_pl_is_number", "_law_pl_is_number", defArgs sPlIsNumber, defBody sPlIsNumber, defScope sPlIsNumber, [], []⟩, ⟨("_law_pl_is_name", none), "_law_pl_is_name", "_law_pl_is_name", defArgs sPlIsName, defBody sPlIsName, defScope sPlIsName, [], []⟩, ⟨("fixed", none), "fixed", "fixed", defArgs sFixed, defBody sFixed, defScope sFixed, [], []⟩, ⟨("_law_any", none), "_law_any", "_law_any", defArgs sAny, defBody sAny, defScope sAny, [], []⟩, ⟨("law", none), "law", "law", defArgs sLaw, defBody sLaw, defScope sLaw, [], []⟩, ⟨("Paper", some "__init__"), "__init__", "Paper.__init__", defArgs sPInit, defBody sPInit, defScope sPInit, [], []⟩, ⟨("Paper", some "__eq__"), "__eq__", "Paper.__eq__", defArgs sPEq, defBody sPEq, defScope sPEq, [], []⟩, ⟨("Paper", some "__bool__"), "__bool__", "Paper.__bool__", defArgs sPBool, defBody sPBool, defScope sPBool, [], []⟩, ⟨("Denial", some "__bool__"), "__bool__", "Denial.__bool__", defArgs sDBool, defBody sDBool, defScope sDBool, [], []⟩]
def fx : List InitD := [⟨"Back", "Paper", "Back.__init__", defArgs sBackI, defBody sBackI, defScope sBackI⟩, ⟨"Kept", "Paper", "Kept.__init__", defArgs sKeptI, defBody sKeptI, defScope sKeptI⟩, ⟨"Deep", "Paper", "Deep.__init__", defArgs sDeepI, defBody sDeepI, defScope sDeepI⟩, ⟨"Bottomless", "Paper", "Bottomless.__init__", defArgs sBottomlessI, defBody sBottomlessI, defScope sBottomlessI⟩, ⟨"Ends", "Paper", "Ends.__init__", defArgs sEndsI, defBody sEndsI, defScope sEndsI⟩, ⟨"Comes", "Paper", "Comes.__init__", defArgs sComesI, defBody sComesI, defScope sComesI⟩, ⟨"Never", "Paper", "Never.__init__", defArgs sNeverI, defBody sNeverI, defScope sNeverI⟩, ⟨"Sound", "Paper", "Sound.__init__", defArgs sSoundI, defBody sSoundI, defScope sSoundI⟩, ⟨"Loses", "Paper", "Loses.__init__", defArgs sLosesI, defBody sLosesI, defScope sLosesI⟩, ⟨"Outs", "Paper", "Outs.__init__", defArgs sOutsI, defBody sOutsI, defScope sOutsI⟩]
def xs : List (PySem.W.Frag → Bool) := [(papB "Paper" "Paper" false), (papB "Denial" "Denial" true), (papB "Back" "Paper" false), (papB "Kept" "Denial" true), (papB "Deep" "Paper" false), (papB "Bottomless" "Denial" true), (papB "Ends" "Paper" false), (papB "Comes" "Paper" false), (papB "Never" "Denial" true), (papB "Sound" "Paper" false), (papB "Loses" "Denial" true), (papB "Outs" "Denial" true), (fun K => decide (He.ma K (He.ga K "Denial") "__init__" = He.ma K (He.ga K "Paper") "__init__")), (fun K => PySem.W.notFirst K (He.ga K "Ends") (.ref (He.ga K "Ends"))), (fun K => PySem.W.notFirst K (He.ga K "Kept") (.ref (He.ga K "Kept"))), (fun K => PySem.W.notFirst K (He.ga K "Ends") (.ref (He.ga K "Comes"))), (fun K => PySem.W.notFirst K (He.ga K "Ends") (.ref (He.ga K "Paper"))), (fun K => PySem.W.isFn K (.ref (He.ma K (He.ga K "Paper") "__eq__"))), (fun K => PySem.W.isFn K (.ref (He.ma K (He.ga K "Paper") "__bool__"))), (fun K => PySem.W.isFn K (.ref (He.ma K (He.ga K "Denial") "__bool__")))]
abbrev R : PySem.W.OpenRow := PySem.W.OpenLaw.row PySem.Challenge.rw_deepasdrawn_k10_papers_and_checks
abbrev hk : PySem.W.Hook := hookX 6 R.prog fa fn fx xs
def ob (s : PySem.W.SharedT) : AlX := obsXG 6 R.prog fa fn fx xs (HandSHeadRun.getT s)
theorem ob_eq (s : PySem.W.SharedT) : ob s = hk.obs s.abs := obsXG_eq (HandSHeadRun.getT_eq s)
def loose : List PySem.Str := ["fixed", "Paper", "Denial", "LETTERS", "is_integer", "is_within", "is_listed", "is_name", "are_names", "Back", "Kept", "Deep", "Bottomless", "Ends", "Comes", "Never", "Sound", "Loses", "Outs", "_law_pen", "_law_draw", "_law_pick", "_law_pl_is_number", "_law_pl_is_name", "_law_any"]
theorem run (w : World) : HandSHeadRun.RunEq R (PySem.W.view R.prog [32]) hk ob 6000 loose w := by
  intro os
  kernel_rfl
theorem papB_ok {K : PySem.W.Frag} {c b : Str} {den : Bool} (h : papB c b den K = true) (cl : Cls K (He.ga K c)) (no : ∀ f ∈ fieldNames, NoAttr K (He.ga K c) f) : ClsT K (ad K) (He.ga K c) c (He.ma K (He.ga K b) "__bool__") den := by
  obtain ⟨h1, h⟩ := He.ba h
  obtain ⟨h2, h⟩ := He.ba h
  obtain ⟨h3, h⟩ := He.ba h
  obtain ⟨h4, h⟩ := He.ba h
  obtain ⟨h5, h6⟩ := He.ba h
  exact ⟨cl, no, clsNmB_ok h1, He.eqO_ok h2, He.eqO_ok h3, He.eqO_ok h4, of_decide_eq_true h5, of_decide_eq_true h6⟩
theorem no_of {K : PySem.W.Frag} {c : Str} (h : ∀ f ∈ fieldNames, (He.Fa.noat c f).ok K = true) : ∀ f ∈ fieldNames, NoAttr K (He.ga K c) f := fun f hf => He.noat_ok (h f hf)
theorem facts {w : World} {K : PySem.W.Frag} {h : Heap} {mg : Str → Option Value} (X : K.In h) (G : h.Ns mainGlobals mg) (c : SaysX R.prog fa fn fx xs K) : Nonempty (F10 K (ad K)) ∧ T10 mg K (ad K) ∧ Nonempty (C10 R.prog K mg (ad K)) := by
  obtain ⟨fIsInteger, FIsInteger⟩ := c.def_ 0 rfl
  obtain ⟨fIsWithin, FIsWithin⟩ := c.def_ 1 rfl
  obtain ⟨fIsListed, FIsListed⟩ := c.def_ 2 rfl
  obtain ⟨fIsName, FIsName⟩ := c.def_ 3 rfl
  obtain ⟨fAreNames, FAreNames⟩ := c.def_ 4 rfl
  obtain ⟨fPen, FPen⟩ := c.def_ 5 rfl
  obtain ⟨fDraw, FDraw⟩ := c.def_ 6 rfl
  obtain ⟨fPick, FPick⟩ := c.def_ 7 rfl
  obtain ⟨fPlIsNumber, FPlIsNumber⟩ := c.def_ 8 rfl
  obtain ⟨fPlIsName, FPlIsName⟩ := c.def_ 9 rfl
  obtain ⟨fFixed, FFixed⟩ := c.def_ 10 rfl
  obtain ⟨fAny, FAny⟩ := c.def_ 11 rfl
  obtain ⟨fLaw, FLaw⟩ := c.def_ 12 rfl
  obtain ⟨fPInit, FPInit⟩ := c.def_ 13 rfl
  obtain ⟨fPEq, FPEq⟩ := c.def_ 14 rfl
  obtain ⟨fPBool, FPBool⟩ := c.def_ 15 rfl
  obtain ⟨fDBool, FDBool⟩ := c.def_ 16 rfl
  have clPaper := He.cls_ok (c.at_ 37 (f := .cls "Paper") rfl)
  have mkPaper := He.mkr_ok (c.at_ 49 (f := .mkr "Paper") rfl)
  have noPaper : ∀ f ∈ fieldNames, NoAttr K (He.ga K "Paper") f := no_of fun f hf => by
    simp only [fieldNames, List.mem_cons, List.not_mem_nil, or_false] at hf
    rcases hf with rfl | rfl | rfl | rfl | rfl | rfl | rfl | rfl
    · exact c.at_ 62 rfl
    · exact c.at_ 63 rfl
    · exact c.at_ 64 rfl
    · exact c.at_ 65 rfl
    · exact c.at_ 66 rfl
    · exact c.at_ 67 rfl
    · exact c.at_ 68 rfl
    · exact c.at_ 69 rfl
  have tPaper := papB_ok (c.own 0 rfl) clPaper noPaper
  have clDenial := He.cls_ok (c.at_ 38 (f := .cls "Denial") rfl)
  have mkDenial := He.mkr_ok (c.at_ 50 (f := .mkr "Denial") rfl)
  have noDenial : ∀ f ∈ fieldNames, NoAttr K (He.ga K "Denial") f := no_of fun f hf => by
    simp only [fieldNames, List.mem_cons, List.not_mem_nil, or_false] at hf
    rcases hf with rfl | rfl | rfl | rfl | rfl | rfl | rfl | rfl
    · exact c.at_ 70 rfl
    · exact c.at_ 71 rfl
    · exact c.at_ 72 rfl
    · exact c.at_ 73 rfl
    · exact c.at_ 74 rfl
    · exact c.at_ 75 rfl
    · exact c.at_ 76 rfl
    · exact c.at_ 77 rfl
  have tDenial := papB_ok (c.own 1 rfl) clDenial noDenial
  have clBack := He.cls_ok (c.at_ 39 (f := .cls "Back") rfl)
  have mkBack := He.mkr_ok (c.at_ 51 (f := .mkr "Back") rfl)
  have noBack : ∀ f ∈ fieldNames, NoAttr K (He.ga K "Back") f := no_of fun f hf => by
    simp only [fieldNames, List.mem_cons, List.not_mem_nil, or_false] at hf
    rcases hf with rfl | rfl | rfl | rfl | rfl | rfl | rfl | rfl
    · exact c.at_ 78 rfl
    · exact c.at_ 79 rfl
    · exact c.at_ 80 rfl
    · exact c.at_ 81 rfl
    · exact c.at_ 82 rfl
    · exact c.at_ 83 rfl
    · exact c.at_ 84 rfl
    · exact c.at_ 85 rfl
  have tBack := papB_ok (c.own 2 rfl) clBack noBack
  have clKept := He.cls_ok (c.at_ 40 (f := .cls "Kept") rfl)
  have mkKept := He.mkr_ok (c.at_ 52 (f := .mkr "Kept") rfl)
  have noKept : ∀ f ∈ fieldNames, NoAttr K (He.ga K "Kept") f := no_of fun f hf => by
    simp only [fieldNames, List.mem_cons, List.not_mem_nil, or_false] at hf
    rcases hf with rfl | rfl | rfl | rfl | rfl | rfl | rfl | rfl
    · exact c.at_ 86 rfl
    · exact c.at_ 87 rfl
    · exact c.at_ 88 rfl
    · exact c.at_ 89 rfl
    · exact c.at_ 90 rfl
    · exact c.at_ 91 rfl
    · exact c.at_ 92 rfl
    · exact c.at_ 93 rfl
  have tKept := papB_ok (c.own 3 rfl) clKept noKept
  have clDeep := He.cls_ok (c.at_ 41 (f := .cls "Deep") rfl)
  have mkDeep := He.mkr_ok (c.at_ 53 (f := .mkr "Deep") rfl)
  have noDeep : ∀ f ∈ fieldNames, NoAttr K (He.ga K "Deep") f := no_of fun f hf => by
    simp only [fieldNames, List.mem_cons, List.not_mem_nil, or_false] at hf
    rcases hf with rfl | rfl | rfl | rfl | rfl | rfl | rfl | rfl
    · exact c.at_ 94 rfl
    · exact c.at_ 95 rfl
    · exact c.at_ 96 rfl
    · exact c.at_ 97 rfl
    · exact c.at_ 98 rfl
    · exact c.at_ 99 rfl
    · exact c.at_ 100 rfl
    · exact c.at_ 101 rfl
  have tDeep := papB_ok (c.own 4 rfl) clDeep noDeep
  have clBottomless := He.cls_ok (c.at_ 42 (f := .cls "Bottomless") rfl)
  have mkBottomless := He.mkr_ok (c.at_ 54 (f := .mkr "Bottomless") rfl)
  have noBottomless : ∀ f ∈ fieldNames, NoAttr K (He.ga K "Bottomless") f := no_of fun f hf => by
    simp only [fieldNames, List.mem_cons, List.not_mem_nil, or_false] at hf
    rcases hf with rfl | rfl | rfl | rfl | rfl | rfl | rfl | rfl
    · exact c.at_ 102 rfl
    · exact c.at_ 103 rfl
    · exact c.at_ 104 rfl
    · exact c.at_ 105 rfl
    · exact c.at_ 106 rfl
    · exact c.at_ 107 rfl
    · exact c.at_ 108 rfl
    · exact c.at_ 109 rfl
  have tBottomless := papB_ok (c.own 5 rfl) clBottomless noBottomless
  have clEnds := He.cls_ok (c.at_ 43 (f := .cls "Ends") rfl)
  have mkEnds := He.mkr_ok (c.at_ 55 (f := .mkr "Ends") rfl)
  have noEnds : ∀ f ∈ fieldNames, NoAttr K (He.ga K "Ends") f := no_of fun f hf => by
    simp only [fieldNames, List.mem_cons, List.not_mem_nil, or_false] at hf
    rcases hf with rfl | rfl | rfl | rfl | rfl | rfl | rfl | rfl
    · exact c.at_ 110 rfl
    · exact c.at_ 111 rfl
    · exact c.at_ 112 rfl
    · exact c.at_ 113 rfl
    · exact c.at_ 114 rfl
    · exact c.at_ 115 rfl
    · exact c.at_ 116 rfl
    · exact c.at_ 117 rfl
  have tEnds := papB_ok (c.own 6 rfl) clEnds noEnds
  have clComes := He.cls_ok (c.at_ 44 (f := .cls "Comes") rfl)
  have mkComes := He.mkr_ok (c.at_ 56 (f := .mkr "Comes") rfl)
  have noComes : ∀ f ∈ fieldNames, NoAttr K (He.ga K "Comes") f := no_of fun f hf => by
    simp only [fieldNames, List.mem_cons, List.not_mem_nil, or_false] at hf
    rcases hf with rfl | rfl | rfl | rfl | rfl | rfl | rfl | rfl
    · exact c.at_ 118 rfl
    · exact c.at_ 119 rfl
    · exact c.at_ 120 rfl
    · exact c.at_ 121 rfl
    · exact c.at_ 122 rfl
    · exact c.at_ 123 rfl
    · exact c.at_ 124 rfl
    · exact c.at_ 125 rfl
  have tComes := papB_ok (c.own 7 rfl) clComes noComes
  have clNever := He.cls_ok (c.at_ 45 (f := .cls "Never") rfl)
  have mkNever := He.mkr_ok (c.at_ 57 (f := .mkr "Never") rfl)
  have noNever : ∀ f ∈ fieldNames, NoAttr K (He.ga K "Never") f := no_of fun f hf => by
    simp only [fieldNames, List.mem_cons, List.not_mem_nil, or_false] at hf
    rcases hf with rfl | rfl | rfl | rfl | rfl | rfl | rfl | rfl
    · exact c.at_ 126 rfl
    · exact c.at_ 127 rfl
    · exact c.at_ 128 rfl
    · exact c.at_ 129 rfl
    · exact c.at_ 130 rfl
    · exact c.at_ 131 rfl
    · exact c.at_ 132 rfl
    · exact c.at_ 133 rfl
  have tNever := papB_ok (c.own 8 rfl) clNever noNever
  have clSound := He.cls_ok (c.at_ 46 (f := .cls "Sound") rfl)
  have mkSound := He.mkr_ok (c.at_ 58 (f := .mkr "Sound") rfl)
  have noSound : ∀ f ∈ fieldNames, NoAttr K (He.ga K "Sound") f := no_of fun f hf => by
    simp only [fieldNames, List.mem_cons, List.not_mem_nil, or_false] at hf
    rcases hf with rfl | rfl | rfl | rfl | rfl | rfl | rfl | rfl
    · exact c.at_ 134 rfl
    · exact c.at_ 135 rfl
    · exact c.at_ 136 rfl
    · exact c.at_ 137 rfl
    · exact c.at_ 138 rfl
    · exact c.at_ 139 rfl
    · exact c.at_ 140 rfl
    · exact c.at_ 141 rfl
  have tSound := papB_ok (c.own 9 rfl) clSound noSound
  have clLoses := He.cls_ok (c.at_ 47 (f := .cls "Loses") rfl)
  have mkLoses := He.mkr_ok (c.at_ 59 (f := .mkr "Loses") rfl)
  have noLoses : ∀ f ∈ fieldNames, NoAttr K (He.ga K "Loses") f := no_of fun f hf => by
    simp only [fieldNames, List.mem_cons, List.not_mem_nil, or_false] at hf
    rcases hf with rfl | rfl | rfl | rfl | rfl | rfl | rfl | rfl
    · exact c.at_ 142 rfl
    · exact c.at_ 143 rfl
    · exact c.at_ 144 rfl
    · exact c.at_ 145 rfl
    · exact c.at_ 146 rfl
    · exact c.at_ 147 rfl
    · exact c.at_ 148 rfl
    · exact c.at_ 149 rfl
  have tLoses := papB_ok (c.own 10 rfl) clLoses noLoses
  have clOuts := He.cls_ok (c.at_ 48 (f := .cls "Outs") rfl)
  have mkOuts := He.mkr_ok (c.at_ 60 (f := .mkr "Outs") rfl)
  have noOuts : ∀ f ∈ fieldNames, NoAttr K (He.ga K "Outs") f := no_of fun f hf => by
    simp only [fieldNames, List.mem_cons, List.not_mem_nil, or_false] at hf
    rcases hf with rfl | rfl | rfl | rfl | rfl | rfl | rfl | rfl
    · exact c.at_ 150 rfl
    · exact c.at_ 151 rfl
    · exact c.at_ 152 rfl
    · exact c.at_ 153 rfl
    · exact c.at_ 154 rfl
    · exact c.at_ 155 rfl
    · exact c.at_ 156 rfl
    · exact c.at_ 157 rfl
  have tOuts := papB_ok (c.own 11 rfl) clOuts noOuts
  have di := of_decide_eq_true (c.own 12 rfl)
  obtain ⟨eBack, kBack⟩ := c.init 0 rfl
  obtain ⟨fdBack, xBack⟩ := InitD.fnx (mg := mg) eBack kBack (by decide +kernel)
  obtain ⟨eKept, kKept⟩ := c.init 1 rfl
  obtain ⟨fdKept, xKept⟩ := InitD.fnx (mg := mg) eKept kKept (by decide +kernel)
  obtain ⟨eDeep, kDeep⟩ := c.init 2 rfl
  obtain ⟨fdDeep, xDeep⟩ := InitD.fnx (mg := mg) eDeep kDeep (by decide +kernel)
  obtain ⟨eBottomless, kBottomless⟩ := c.init 3 rfl
  obtain ⟨fdBottomless, xBottomless⟩ := InitD.fnx (mg := mg) eBottomless kBottomless (by decide +kernel)
  obtain ⟨eEnds, kEnds⟩ := c.init 4 rfl
  obtain ⟨fdEnds, xEnds⟩ := InitD.fnx (mg := mg) eEnds kEnds (by decide +kernel)
  obtain ⟨eComes, kComes⟩ := c.init 5 rfl
  obtain ⟨fdComes, xComes⟩ := InitD.fnx (mg := mg) eComes kComes (by decide +kernel)
  obtain ⟨eNever, kNever⟩ := c.init 6 rfl
  obtain ⟨fdNever, xNever⟩ := InitD.fnx (mg := mg) eNever kNever (by decide +kernel)
  obtain ⟨eSound, kSound⟩ := c.init 7 rfl
  obtain ⟨fdSound, xSound⟩ := InitD.fnx (mg := mg) eSound kSound (by decide +kernel)
  obtain ⟨eLoses, kLoses⟩ := c.init 8 rfl
  obtain ⟨fdLoses, xLoses⟩ := InitD.fnx (mg := mg) eLoses kLoses (by decide +kernel)
  obtain ⟨eOuts, kOuts⟩ := c.init 9 rfl
  obtain ⟨fdOuts, xOuts⟩ := InitD.fnx (mg := mg) eOuts kOuts (by decide +kernel)
  refine ⟨⟨⟨fIsInteger, fun_of FIsInteger, fIsWithin, fun_of FIsWithin, fIsListed, fun_of FIsListed, fIsName, fun_of FIsName, fAreNames, fun_of FAreNames, fPen, fun_of FPen, fDraw, fun_of FDraw, fPick, fun_of FPick, fPlIsNumber, fun_of FPlIsNumber, fPlIsName, fun_of FPlIsName, fFixed, fun_of FFixed, fAny, fun_of FAny, fLaw, fun_of FLaw, fPInit, fun_of FPInit, fPEq, fun_of FPEq, fPBool, fun_of FPBool, fDBool, fun_of FDBool⟩⟩, ⟨He.free_ok X G (c.at_ 13 (f := .free "int") rfl), He.free_ok X G (c.at_ 14 (f := .free "len") rfl), He.free_ok X G (c.at_ 15 (f := .free "abs") rfl), He.free_ok X G (c.at_ 16 (f := .free "list") rfl), He.free_ok X G (c.at_ 17 (f := .free "tuple") rfl), He.free_ok X G (c.at_ 18 (f := .free "isinstance") rfl), He.free_ok X G (c.at_ 19 (f := .free "bool") rfl), He.free_ok X G (c.at_ 20 (f := .free "str") rfl), He.free_ok X G (c.at_ 21 (f := .free "all") rfl), He.free_ok X G (c.at_ 22 (f := .free "repr") rfl), He.free_ok X G (c.at_ 23 (f := .free "set") rfl), He.free_ok X G (c.at_ 24 (f := .free "range") rfl), He.glo_ok X G (c.at_ 0 (f := .glo "is_integer") rfl), FIsInteger.kp, He.glo_ok X G (c.at_ 1 (f := .glo "is_within") rfl), FIsWithin.kp, He.glo_ok X G (c.at_ 2 (f := .glo "is_listed") rfl), FIsListed.kp, He.glo_ok X G (c.at_ 3 (f := .glo "is_name") rfl), FIsName.kp, He.glo_ok X G (c.at_ 4 (f := .glo "are_names") rfl), FAreNames.kp, He.glo_ok X G (c.at_ 5 (f := .glo "_law_pen") rfl), FPen.kp, He.glo_ok X G (c.at_ 6 (f := .glo "_law_draw") rfl), FDraw.kp, He.glo_ok X G (c.at_ 7 (f := .glo "_law_pick") rfl), FPick.kp, He.glo_ok X G (c.at_ 8 (f := .glo "_law_pl_is_number") rfl), FPlIsNumber.kp, He.glo_ok X G (c.at_ 9 (f := .glo "_law_pl_is_name") rfl), FPlIsName.kp, He.glo_ok X G (c.at_ 10 (f := .glo "fixed") rfl), FFixed.kp, He.glo_ok X G (c.at_ 11 (f := .glo "_law_any") rfl), FAny.kp, He.glo_ok X G (c.at_ 12 (f := .glo "law") rfl), FLaw.kp, He.glo_ok X G (c.at_ 25 (f := .glo "Paper") rfl), mkPaper.kp, He.glo_ok X G (c.at_ 26 (f := .glo "Denial") rfl), mkDenial.kp, He.glo_ok X G (c.at_ 27 (f := .glo "Back") rfl), mkBack.kp, He.glo_ok X G (c.at_ 28 (f := .glo "Kept") rfl), mkKept.kp, He.glo_ok X G (c.at_ 29 (f := .glo "Deep") rfl), mkDeep.kp, He.glo_ok X G (c.at_ 30 (f := .glo "Bottomless") rfl), mkBottomless.kp, He.glo_ok X G (c.at_ 31 (f := .glo "Ends") rfl), mkEnds.kp, He.glo_ok X G (c.at_ 32 (f := .glo "Comes") rfl), mkComes.kp, He.glo_ok X G (c.at_ 33 (f := .glo "Never") rfl), mkNever.kp, He.glo_ok X G (c.at_ 34 (f := .glo "Sound") rfl), mkSound.kp, He.glo_ok X G (c.at_ 35 (f := .glo "Loses") rfl), mkLoses.kp, He.glo_ok X G (c.at_ 36 (f := .glo "Outs") rfl), mkOuts.kp, He.str_ok X G (c.at_ 61 (f := .str "LETTERS" "abcdefghijklmnopqrstuvwxyz") rfl)⟩, ⟨⟨fdBack, xBack, mkBack, tBack, fdKept, xKept, mkKept, tKept, fdDeep, xDeep, mkDeep, tDeep, fdBottomless, xBottomless, mkBottomless, tBottomless, fdEnds, xEnds, mkEnds, tEnds, fdComes, xComes, mkComes, tComes, fdNever, xNever, mkNever, tNever, fdSound, xSound, mkSound, tSound, fdLoses, xLoses, mkLoses, tLoses, fdOuts, xOuts, mkOuts, tOuts, mkPaper, tPaper, (show Mk K (He.ga K "Denial") (He.ma K (He.ga K "Paper") "__init__") from by rw [← di]; exact mkDenial), tDenial, c.own 13 rfl, c.own 14 rfl, c.own 15 rfl, c.own 16 rfl, tEnds.nm.mo, tKept.nm.mo, c.own 17 rfl, c.own 18 rfl, c.own 19 rfl⟩⟩⟩
theorem main_facts {w : World} {K : PySem.W.Frag} {h : Heap} {mg : Str → Option Value} {f : Addr} (X : K.In h) (G : h.Ns mainGlobals mg) (hfa : mg ("law" : Str) = some (.ref f)) (c : SaysX R.prog fa fn fx xs K) :
    ∃ fd : FuncData, (∀ (s : Shared) (v : Value), BindsTo s fd ⟨[v], []⟩ [("script", v)]) ∧ ∀ base : Heap, K.In base → base.Ns mainGlobals mg → FnG R.prog w K mg base CX0 13 f fd ["script"] (spLaw K) := by
  obtain ⟨⟨F⟩, T, ⟨KK⟩⟩ := facts (w := w) X G c
  have e := hfa.symm.trans T.gLaw
  cases e
  refine ⟨F.fLaw, fun s v => ?_, fun base _ _ => ok_law F T KK⟩
  obtain ⟨_, _, _, _, _, _, _, _, _, h, _, _⟩ := F.FLaw.ex
  rw [h]
  exact .of_eq rfl

end K10

open PySem PySem.W PySem.Calls PyProof.Rows
set_option maxRecDepth 100000 in
set_option maxHeartbeats 8000000 in
theorem PySem.Challenge.cw_deepasdrawn_k10_papers_and_checks_holds : PySem.Challenge.rw_deepasdrawn_k10_papers_and_checks.Holds := by
  w_on; o_law
  refine HandSHeadRun.head_any (r := K10.R) (q := view K10.R.prog [32]) (H := K10.hk) (ob := K10.ob) (M := 6000) (loose := K10.loose) (d := HandSHeadRun.topDef K10.R.prog 32) (kwd := []) K10.ob_eq
    (by kernel_rfl) (fun s => by kernel_rfl) K10.run (by kernel_rfl) (by kernel_rfl) (by kernel_rfl) (by rfl) (by first | assumption | decide +kernel) (by decide +kernel) ⟨rfl, rfl, rfl, rfl, rfl, by decide +kernel⟩ ?hw ?hc
  case hw => w_witness2
  case hc =>
    refine OwnL.walk_ofG (l := PySem.Challenge.rw_deepasdrawn_k10_papers_and_checks) (n := 63) (k := 13) (x := "script") (CX := L2.CX0) rfl (by decide) (by kernel_rfl) ⟨rfl, by decide, by decide⟩ ?F (fun _ _ _ _ z => z)
    intro w mg fa h Y G hmg0
    obtain ⟨K, KX, c⟩ := Y
    have hmg : mg ("law" : PySem.Str) = some (.ref fa) := by
      have e : (HandSHeadRun.topDef K10.R.prog 32).name = ("law" : PySem.Str) := by kernel_rfl
      rw [← e]
      exact hmg0
    obtain ⟨fd, hb, hF⟩ := K10.main_facts (w := w) KX G hmg c
    exact ⟨K, fd, K10.spLaw K, KX, hb, fun H a ns hl _ hS => ⟨a, ns, rfl, hS, fun _ => rfl⟩, hF⟩
